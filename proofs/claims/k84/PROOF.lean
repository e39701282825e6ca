import PyProof.Rows.All
import HandS.Text
import HandS.ForMost
import HandS.Wide
import HandS.IsInst
import HandS.TupAny
import HandS.TupMul
import HandS.NoneIn
import HandS.Style
import HandS.Exc
import HandS.RaiseMore
import HandS.Flow
import HandS.Defaults
import HandS.Words
import HandS.HeadHook1
import HandS.HeadHook2
import HandS.HeadEnd
import HandS.Head0
import HandS.Head1
import HandS.Head2
import PySem.Challenge.RW_evensure_k84_whole_evidence_of_common_da
set_option Elab.async false
set_option linter.all false
set_option maxRecDepth 100000
-- PiCore
namespace Pi
open PySem

inductive D where
  | non | bl (b : Bool) | int (i : Int) | str (s : Str) | tup (ds : List D) | ls (ds : List D) | fn (j : Nat)
  deriving Inhabited

mutual
def D.toPy : D → PyData
  | .non => .none
  | .bl b => .bool b
  | .int i => .int i
  | .str s => .str s
  | .tup ds => .tuple (D.toPys ds)
  | .ls ds => .list (D.toPys ds)
  | .fn _ => .dict []
def D.toPys : List D → List PyData
  | [] => []
  | d :: ds => D.toPy d :: D.toPys ds
end

mutual
def D.eqv : D → D → Bool
  | .non, .non => true
  | .bl a, .bl b => a == b
  | .bl a, .int j => (if a then 1 else 0) == j
  | .int i, .bl b => i == (if b then 1 else 0)
  | .int i, .int j => i == j
  | .str x, .str y => x == y
  | .ls xs, .ls ys => D.eqvs xs ys
  | .tup xs, .tup ys => D.eqvs xs ys
  | _, _ => false
def D.eqvs : List D → List D → Bool
  | [], [] => true
  | x :: xs, y :: ys => D.eqv x y && D.eqvs xs ys
  | _, _ => false
end
def D.shp (d : D) : Bool := SeqAt.shaped d.toPy

def D.flat : D → Bool
  | .non | .bl _ | .int _ | .str _ => true
  | _ => false

inductive Slot where
  | nil | val (d : D) | own (ds : List D) | io (ds : List D)
  deriving Inhabited
abbrev En := List Slot

inductive BOp where | add | sub | mul | fdiv | mod | pow
inductive COp where | eq | ne | lt | le | gt | ge | inn | nin
inductive Ty where | int | bool | str | tuple | list
inductive BI where | len | abs | min | max | int | sum | tuple | list | all | any | repr

instance (i j : Int) : Decidable (L2.CMul i j) := inferInstanceAs (Decidable ((-(2 ^ 64) < i ∧ i < 2 ^ 64) ∨ (-(2 ^ 64) < j ∧ j < 2 ^ 64)))
def MulOk (i j : Int) : Prop := L2.CMul i j ∨ i.natAbs.log2 + j.natAbs.log2 < 1000000
instance (i j : Int) : Decidable (MulOk i j) := inferInstanceAs (Decidable (_ ∨ _))
def DivOk (j : Int) : Prop := 0 < j ∧ j.natAbs.log2 < 9000
instance (j : Int) : Decidable (DivOk j) := inferInstanceAs (Decidable (_ ∧ _))

def evalBin : BOp → D → D → Option Slot
  | .add, .int i, .int j => some (.val (.int (i + j)))
  | .add, .tup xs, .tup ys => if xs.length + ys.length ≤ sizeLine then some (.val (.tup (xs ++ ys))) else none
  | .add, .ls xs, .ls ys => if xs.length + ys.length ≤ sizeLine then some (.own (xs ++ ys)) else none
  | .add, .str x, .str y => if x.length + y.length ≤ sizeLine then some (.val (.str (x ++ y))) else none
  | .sub, .int i, .int j => some (.val (.int (i - j)))
  | .add, .bl b, .int j => some (.val (.int ((if b = true then (1 : Int) else 0) + j)))
  | .add, .int i, .bl b => some (.val (.int (i + if b = true then (1 : Int) else 0)))
  | .sub, .bl b, .int j => some (.val (.int ((if b = true then (1 : Int) else 0) - j)))
  | .sub, .int i, .bl b => some (.val (.int (i - if b = true then (1 : Int) else 0)))
  | .mul, .int i, .int j => if MulOk i j then some (.val (.int (i * j))) else none
  | .mul, .tup xs, .int k => if 2 ≤ k ∧ k ≤ 1000 ∧ xs.length ≤ 1000 then some (.val (.tup (List.replicate k.toNat xs).flatten)) else none
  | .mul, .ls xs, .int k => if -(2 ^ 63) ≤ k ∧ k < 2 ^ 63 ∧ xs.length * k.toNat ≤ sizeLine then some (.own (List.replicate k.toNat xs).flatten) else none
  | .fdiv, .int i, .int j => if DivOk j then some (.val (.int (i / j))) else if j ≠ 0 ∧ j.natAbs < 1073741824 then some (.val (.int (i.fdiv j))) else none
  | .mod, .int i, .int j => if 0 < j then some (.val (.int (i % j))) else if j ≠ 0 then some (.val (.int (i.fmod j))) else none
  | .pow, .int i, .int j => if 0 ≤ j ∧ j ≤ 1000000 ∧ i.natAbs < 2 ^ 64 then some (.val (.int (i ^ j.toNat))) else none
  | _, _, _ => none

def allInt : List D → Option (List Int)
  | [] => some []
  | .int i :: ds => (allInt ds).map (i :: ·)
  | _ => none
def allBl : List D → Option (List Bool)
  | [] => some []
  | .bl i :: ds => (allBl ds).map (i :: ·)
  | _ => none
def D.items : D → Option (List D)
  | .tup ds => some ds
  | .ls ds => some ds
  | _ => none
def D.isIn (x : D) (ds : List D) : Bool := ds.any fun y => D.eqv y x

def evalCmp : COp → D → D → Option Bool
  | .eq, a, b => if a.shp ∧ b.shp then some (D.eqv a b) else none
  | .ne, a, b => if a.shp ∧ b.shp then some (!D.eqv a b) else none
  | .lt, .int i, .int j => some (decide (i < j))
  | .le, .int i, .int j => some (decide (i ≤ j))
  | .gt, .int i, .int j => some (decide (j < i))
  | .ge, .int i, .int j => some (decide (j ≤ i))
  | .lt, .tup xs, .tup ys => match allInt xs, allInt ys with
    | some ns, some ms => some (HT.lexLt ns ms)
    | _, _ => none
  | .inn, a, b => match b.items with
    | some ds => if a.flat ∧ ds.all D.flat then some (D.isIn a ds) else none
    | none => none
  | .nin, a, b => match b.items with
    | some ds => if a.flat ∧ ds.all D.flat then some (!D.isIn a ds) else none
    | none => none
  | _, _, _ => none

def D.isNon : D → Bool
  | .non => true
  | _ => false
def D.truth : D → Option Bool
  | .non => some false
  | .bl b => some b
  | .int i => some (i != 0)
  | .str s => if s.length ≤ sizeLine then some (s.length != 0) else none
  | .tup ds => some (!ds.isEmpty)
  | .ls ds => some (!ds.isEmpty)
  | .fn _ => none

def isTy : Ty → D → Option Bool
  | .int, .int _ | .int, .bl _ => some true
  | .bool, .bl _ => some true
  | .str, .str _ => some true
  | .tuple, .tup _ => some true
  | .list, .ls _ => some true
  | _, .fn _ => none
  | _, _ => some false

def maxOf : List Int → Option Int
  | [] => none
  | x :: xs => some (xs.foldl (fun m y => if m < y then y else m) x)
def minOf : List Int → Option Int
  | [] => none
  | x :: xs => some (xs.foldl (fun m y => if y < m then y else m) x)

def biLen : List D → Option Slot
  | [.tup ds] => some (.val (.int ds.length))
  | [.ls ds] => some (.val (.int ds.length))
  | [.str s] => if s.length ≤ sizeLine then some (.val (.int s.length)) else none
  | _ => none
def biAbs : List D → Option Slot
  | [.int i] => some (.val (.int (if i < 0 then -i else i)))
  | _ => none
def biMin : List D → Option Slot
  | [.int i, .int j] => some (.val (.int (if j < i then j else i)))
  | [.ls ds] => match allInt ds with
    | some ns => (minOf ns).map fun m => .val (.int m)
    | none => none
  | _ => none
def biMax : List D → Option Slot
  | [.int i, .int j] => some (.val (.int (if j > i then j else i)))
  | [.ls ds] => match allInt ds with
    | some ns => (maxOf ns).map fun m => .val (.int m)
    | none => none
  | _ => none
def biInt : List D → Option Slot
  | [.int i] => some (.val (.int i))
  | [.bl b] => some (.val (.int (if b then 1 else 0)))
  | _ => none
def biSum : List D → Option Slot
  | [.ls ds] => (allInt ds).map fun ns => .val (.int ns.sum)
  | _ => none
def biTuple : List D → Option Slot
  | [.tup ds] => some (.val (.tup ds))
  | [.ls ds] => some (.val (.tup ds))
  | _ => none
def biList : List D → Option Slot
  | [.tup ds] => some (.own ds)
  | [.ls ds] => some (.own ds)
  | _ => none
def biAll : List D → Option Slot
  | [.ls ds] => (allBl ds).map fun bs => .val (.bl (bs.all id))
  | _ => none
def biAny : List D → Option Slot
  | [.ls ds] => (allBl ds).map fun bs => .val (.bl (bs.any id))
  | _ => none
def biRepr : List D → Option Slot
  | [.bl b] => some (.val (.str (if b then "True" else "False")))
  | [.non] => some (.val (.str "None"))
  | [.int i] => if i.natAbs.log2 < 1920 then some (.val (.str (toString i))) else none
  | _ => none
def evalBI : BI → List D → Option Slot
  | .len, ds => biLen ds
  | .abs, ds => biAbs ds
  | .min, ds => biMin ds
  | .max, ds => biMax ds
  | .int, ds => biInt ds
  | .sum, ds => biSum ds
  | .tuple, ds => biTuple ds
  | .list, ds => biList ds
  | .all, ds => biAll ds
  | .any, ds => biAny ds
  | .repr, ds => biRepr ds

inductive Tg where | nm (i : Nat) | tp (is : List Nat)

mutual
inductive CE where
  | var (i : Nat)
  | cst (d : D)
  | gc (x : Str) (d : D)
  | gf (x : Str) (j : Nat)
  | bin (o : BOp) (a b : CE)
  | neg (a : CE)
  | cmp (o : COp) (a b : CE)
  | chain (o o' : COp) (a b c : CE)
  | isN (neg : Bool) (a : CE)
  | and (a b : CE) | or (a b : CE) | not (a : CE)
  | ife (c a b : CE)
  | tup (es : CEs) | lst (es : CEs)
  | ix (a i : CE) | ixv (k : Nat) (i : CE)
  | sl (a lo hi : CE) | slv (k : Nat) (lo hi : CE)
  | rev (a : CE)
  | call (j : Nat) (es : CEs) (dv : List D)
  | callv (i : Nat) (es : CEs)
  | io (i : Nat)
  | bi (b : BI) (es : CEs)
  | lenv (k : Nat)
  | isi (a : CE) (t : Ty)
  | lc (elt : CE) (tg : Tg) (it : CI) (cond : CE) (vs : List Nat)
  | pop (i : Nat)
inductive CEs where | nil | cons (e : CE) (es : CEs)
inductive CI where
  | sq (e : CE) | rg1 (a : CE) | rg2 (a b : CE) | rg3 (a b c : CE) | en (e : CE) | zip (a b : CE)
end

def setSlot (env : En) (i : Nat) (s : Slot) : Option En :=
  match env[i]? with
  | none => none
  | some (.io _) => none
  | some _ => some (env.set i s)
def setSlots (env : En) : List Nat → List Slot → Option En
  | [], [] => some env
  | i :: is, s :: ss => match setSlot env i s with
    | some env' => setSlots env' is ss
    | none => none
  | _, _ => none
def bindTg : Tg → D → En → Option En
  | .nm i, d, env => setSlot env i (.val d)
  | .tp is, .tup ds, env => if is.length = ds.length then setSlots env is (ds.map .val) else none
  | .tp is, .ls ds, env => if is.length = ds.length then setSlots env is (ds.map .val) else none
  | .tp _, _, _ => none
def wipeEn (env : En) : List Nat → Option En
  | [] => some env
  | v :: vs => match wipeEn env vs with
    | some e => setSlot e v .nil
    | none => none
def restore (old : En) (env : En) : List Nat → En
  | [] => env
  | v :: vs => match old[v]? with
    | some s => (restore old env vs).set v s
    | none => restore old env vs

def Dum {α : Type} (_ : α) : Type := Unit
section
variable {β : Type}
def bindV (x : Option (Slot × En)) (f : D → En → Option β) (_u : Dum f := ()) : Option β :=
  match x with
  | some (.val d, e) => f d e
  | some (.own ds, e) => f (.ls ds) e
  | _ => none
def bindB (x : Option (Bool × En)) (f : Bool → En → Option β) (_u : Dum f := ()) : Option β :=
  match x with
  | some (b, e) => f b e
  | none => none
def bindDs (x : Option (List D × En)) (f : List D → En → Option β) (_u : Dum f := ()) : Option β :=
  match x with
  | some (b, e) => f b e
  | none => none
def bindSs (x : Option (List Slot × En)) (f : List Slot → En → Option β) (_u : Dum f := ()) : Option β :=
  match x with
  | some (b, e) => f b e
  | none => none
theorem bindV_val {d e} (f : D → En → Option β) : bindV (some (.val d, e)) f = f d e := rfl
theorem bindV_own {d e} (f : D → En → Option β) : bindV (some (.own d, e)) f = f (.ls d) e := rfl
theorem bindB_some {d e} (f : Bool → En → Option β) : bindB (some (d, e)) f = f d e := rfl
theorem bindDs_some {d e} (f : List D → En → Option β) : bindDs (some (d, e)) f = f d e := rfl
theorem bindSs_some {d e} (f : List Slot → En → Option β) : bindSs (some (d, e)) f = f d e := rfl
end
def Slot.toD : Slot → Option D
  | .val d => some d
  | .own ds => some (.ls ds)
  | _ => none
def Slot.read : Slot → Option D
  | .val d => some d
  | .own ds => some (.ls ds)
  | .io ds => some (.ls ds)
  | .nil => none
def readAt (env : En) (i : Nat) : Option D := match env[i]? with
  | some s => s.read
  | none => none
def Slot.list : Slot → Option (List D)
  | .own ds => some ds
  | .io ds => some ds
  | _ => none
def listAt (env : En) (i : Nat) : Option (List D) := match env[i]? with
  | some s => s.list
  | none => none
def putList (env : En) (i : Nat) (ds : List D) : Option En := match env[i]? with
  | some (.own _) => some (env.set i (.own ds))
  | some (.io _) => some (env.set i (.io ds))
  | _ => none
def putLists (env : En) : List Nat → List (List D) → Option En
  | [], [] => some env
  | i :: is, ds :: dss => match putList env i ds with
    | some e => putLists e is dss
    | none => none
  | _, _ => none
def ixD (d : D) (i : D) : Option D := match d, i with
  | .tup ds, .int k => L2.atI ds k
  | .ls ds, .int k => L2.atI ds k
  | .str s, .int k => if s.length ≤ sizeLine then (L2.atI s.cps.toList k).map fun c => .str ⟨#[c]⟩ else none
  | _, _ => none
def partD : D → Option (Option Int)
  | .non => some none
  | .int i => some (some i)
  | _ => none
def cutD (ds : List D) (lo hi : Option Int) : List D := (ds.drop (HT.sIx ds.length 0 lo)).take (HT.sIx ds.length ds.length hi - HT.sIx ds.length 0 lo)
def slD (d lo hi : D) : Option Slot := match partD lo, partD hi with
  | some l, some h => match d with
    | .tup ds => some (.val (.tup (cutD ds l h)))
    | .ls ds => some (.own (cutD ds l h))
    | .str s => if s.length ≤ sizeLine then some (.val (.str (L2.cutS s l h))) else none
    | _ => none
  | _, _ => none
def revD : D → Option Slot
  | .tup ds => some (.val (.tup ds.reverse))
  | .ls ds => some (.own ds.reverse)
  | _ => none
def rangeD (lo : Int) (n : Nat) : List D := (List.range n).map fun (k : Nat) => .int (lo + (k : Int))
def Small (i : Int) : Prop := -(2 ^ 62) ≤ i ∧ i < 2 ^ 62
instance (i : Int) : Decidable (Small i) := inferInstanceAs (Decidable (_ ∧ _))
def rangeStep (i j c : Int) : Option (List D) :=
  if Small i ∧ Small j ∧ j - i ≤ sizeLine ∧ 0 < c ∧ c < 1073741824 then
    some ((List.range ((j - i + c - 1) / c).toNat).map fun (k : Nat) => .int (i + k * c))
  else none
def enumD (ds : List D) : List D := (List.range ds.length).map fun (k : Nat) => .tup [.int (k : Int), ds.getD (k : Nat) .non]
def zipD (xs ys : List D) : List D := (xs.zip ys).map fun p => .tup [p.1, p.2]

def lcLoop (body : D → En → Option (Option D × En)) : List D → En → List D → Option (List D × En)
  | [], env, acc => some (acc, env)
  | x :: xs, env, acc => match body x env with
    | some (some d, env') => lcLoop body xs env' (acc ++ [d])
    | some (none, env') => lcLoop body xs env' acc
    | none => none

abbrev Oracle := Nat → List Slot → Option (Slot × List (List D))
def iosOf : CEs → List Nat
  | .nil => []
  | .cons (.io i) es => i :: iosOf es
  | .cons _ es => iosOf es

section
variable (cl : Oracle)
mutual
def evalE : CE → En → Option (Slot × En)
  | .var i, env => match env[i]? with
    | some (.val d) => some (.val d, env)
    | some (.own ds) => some (.val (.ls ds), env.set i (.val (.ls ds)))
    | _ => none
  | .cst d, env => some (.val d, env)
  | .gc _ d, env => some (.val d, env)
  | .gf _ j, env => some (.val (.fn j), env)
  | .bin o a b, env => bindV (evalE a env) fun x e1 => bindV (evalE b e1) fun y e2 => (evalBin o x y).map fun s => (s, e2)
  | .neg a, env => bindV (evalE a env) fun x e1 => match x with
    | .int i => some (.val (.int (-i)), e1)
    | _ => none
  | .cmp o a b, env => bindV (evalE a env) fun x e1 => bindV (evalE b e1) fun y e2 => (evalCmp o x y).map fun s => (.val (.bl s), e2)
  | .chain o o' a b c, env => bindV (evalE a env) fun x e1 => bindV (evalE b e1) fun y e2 => match evalCmp o x y with
    | some true => bindV (evalE c e2) fun z e3 => (evalCmp o' y z).map fun s => (.val (.bl s), e3)
    | some false => some (.val (.bl false), e2)
    | none => none
  | .isN n a, env => bindV (evalE a env) fun x e1 => some (.val (.bl (if n then !x.isNon else x.isNon)), e1)
  | .and a b, env => bindV (evalE a env) fun x e1 => match x with
    | .bl true => bindV (evalE b e1) fun y e2 => some (.val y, e2)
    | .bl false => some (.val (.bl false), e1)
    | _ => none
  | .or a b, env => bindV (evalE a env) fun x e1 => match x with
    | .bl false => bindV (evalE b e1) fun y e2 => some (.val y, e2)
    | .bl true => some (.val (.bl true), e1)
    | _ => none
  | .not a, env => bindV (evalE a env) fun x e1 => x.truth.map fun b => (.val (.bl (!b)), e1)
  | .ife c a b, env => bindB (evalT c env) fun x e1 => if x then evalE a e1 else evalE b e1
  | .tup es, env => bindDs (evalEs es env) fun ds e1 => if ds.length ≤ sizeLine then some (.val (.tup ds), e1) else none
  | .lst es, env => bindDs (evalEs es env) fun ds e1 => if ds.length ≤ sizeLine then some (.own ds, e1) else none
  | .ix a i, env => bindV (evalE a env) fun x e1 => bindV (evalE i e1) fun y e2 => (ixD x y).map fun d => (.val d, e2)
  | .ixv k i, env => if (readAt env k).isSome then bindV (evalE i env) fun y e1 => match readAt e1 k with
      | some x => (ixD x y).map fun d => (.val d, e1)
      | none => none
    else none
  | .sl a lo hi, env => bindV (evalE a env) fun x e1 => bindV (evalE lo e1) fun l e2 => bindV (evalE hi e2) fun h e3 => (slD x l h).map fun s => (s, e3)
  | .slv k lo hi, env => if (readAt env k).isSome then bindV (evalE lo env) fun l e2 => bindV (evalE hi e2) fun h e3 => match readAt e3 k with
      | some x => (slD x l h).map fun s => (s, e3)
      | none => none
    else none
  | .rev a, env => bindV (evalE a env) fun x e1 => (revD x).map fun s => (s, e1)
  | .call j es dv, env => bindSs (evalAs es env) fun ss e1 => match cl j (ss ++ dv.map .val) with
    | some (r, outs) => (putLists e1 (iosOf es) outs).map fun e2 => (r, e2)
    | none => none
  | .callv i es, env => match env[i]? with
    | some (.val (.fn j)) => bindDs (evalEs es env) fun ds e1 => match cl j (ds.map .val) with
      | some (r, []) => some (r, e1)
      | _ => none
    | _ => none
  | .io _, _ => none
  | .bi b es, env => bindDs (evalEs es env) fun ds e1 => (evalBI b ds).map fun s => (s, e1)
  | .lenv k, env => match readAt env k with
    | some d => (evalBI .len [d]).map fun s => (s, env)
    | none => none
  | .isi a t, env => bindV (evalE a env) fun x e1 => (isTy t x).map fun b => (.val (.bl b), e1)
  | .lc elt tg it cond vs, env => bindDs (evalI it env) fun xs e1 => match wipeEn e1 vs with
    | some e2 => (lcLoop (fun x e => match bindTg tg x e with
        | some e3 => bindB (evalT cond e3) fun b e4 => if b then bindV (evalE elt e4) fun d e5 => (wipeEn e5 vs).map fun e6 => (some d, e6) else (wipeEn e4 vs).map fun e6 => (none, e6)
        | none => none) xs e2 []).map fun p => (.own p.1, restore e1 p.2 vs)
    | none => none
  | .pop i, env => match listAt env i with
    | some ds => match ds.getLast? with
      | some d => (putList env i ds.dropLast).map fun e1 => (.val d, e1)
      | none => none
    | none => none
def evalT : CE → En → Option (Bool × En)
  | .and a b, env => bindB (evalT a env) fun x e1 => if x then evalT b e1 else some (false, e1)
  | .or a b, env => bindB (evalT a env) fun x e1 => if x then some (true, e1) else evalT b e1
  | .not a, env => bindB (evalT a env) fun x e1 => some (!x, e1)
  | .var i, env => match readAt env i with
    | some d => d.truth.map fun b => (b, env)
    | none => none
  | .cst (.bl b), env => some (b, env)
  | .bin o a b, env => bindV (evalE (.bin o a b) env) fun d e1 => d.truth.map fun b => (b, e1)
  | .neg a, env => bindV (evalE (.neg a) env) fun d e1 => d.truth.map fun b => (b, e1)
  | .cmp o a b, env => bindV (evalE (.cmp o a b) env) fun d e1 => d.truth.map fun b => (b, e1)
  | .chain o o' a b c, env => bindV (evalE (.chain o o' a b c) env) fun d e1 => d.truth.map fun b => (b, e1)
  | .isN n a, env => bindV (evalE (.isN n a) env) fun d e1 => d.truth.map fun b => (b, e1)
  | .ix a i, env => bindV (evalE (.ix a i) env) fun d e1 => d.truth.map fun b => (b, e1)
  | .ixv a i, env => bindV (evalE (.ixv a i) env) fun d e1 => d.truth.map fun b => (b, e1)
  | .call a i dv, env => bindV (evalE (.call a i dv) env) fun d e1 => d.truth.map fun b => (b, e1)
  | .bi a i, env => bindV (evalE (.bi a i) env) fun d e1 => d.truth.map fun b => (b, e1)
  | .isi a i, env => bindV (evalE (.isi a i) env) fun d e1 => d.truth.map fun b => (b, e1)
  | _, _ => none
def evalEs : CEs → En → Option (List D × En)
  | .nil, env => some ([], env)
  | .cons e es, env => bindV (evalE e env) fun d e1 => bindDs (evalEs es e1) fun ds e2 => some (d :: ds, e2)
def evalAs : CEs → En → Option (List Slot × En)
  | .nil, env => some ([], env)
  | .cons (.io i) es, env => if (listAt env i).isSome then bindSs (evalAs es env) fun ss e1 => match listAt e1 i with
      | some ds => some (.own ds :: ss, e1)
      | none => none
    else none
  | .cons e es, env => bindV (evalE e env) fun d e1 => bindSs (evalAs es e1) fun ds e2 => some (.val d :: ds, e2)
def evalI : CI → En → Option (List D × En)
  | .sq e, env => bindV (evalE e env) fun d e1 => d.items.map fun ds => (ds, e1)
  | .rg1 a, env => bindV (evalE a env) fun d e1 => match d with
    | .int j => if Small j ∧ j ≤ sizeLine then some (rangeD 0 j.toNat, e1) else none
    | _ => none
  | .rg2 a b, env => bindV (evalE a env) fun d e1 => bindV (evalE b e1) fun d' e2 => match d, d' with
    | .int i, .int j => if Small i ∧ Small j ∧ j - i ≤ sizeLine then some (rangeD i (j - i).toNat, e2) else none
    | _, _ => none
  | .rg3 a b c, env => bindV (evalE a env) fun d e1 => bindV (evalE b e1) fun d' e2 => bindV (evalE c e2) fun d'' e3 => match d, d', d'' with
    | .int i, .int j, .int c => (rangeStep i j c).map fun ds => (ds, e3)
    | _, _, _ => none
  | .en e, env => bindV (evalE e env) fun d e1 => match d with
    | .ls ds => some (enumD ds, e1)
    | _ => none
  | .zip a b, env => bindV (evalE a env) fun d e1 => bindV (evalE b e1) fun d' e2 => match d, d' with
    | .tup xs, .tup ys => some (zipD xs ys, e2)
    | .ls xs, .ls ys => some (zipD xs ys, e2)
    | _, _ => none
end

inductive Flo where
  | nx (e : En) | rt (r : Slot) (e : En) | bk (e : En) | ct (e : En)

mutual
inductive CS where
  | asg (tg : Tg) (e : CE)
  | asl (is : List Nat) (es : CEs)
  | setix (i : Nat) (k e : CE)
  | app (i : Nat) (e : CE) | ext (i : Nat) (e : CE)
  | drop (e : CE)
  | ret (e : CE) | retv (i : Nat) | ret0
  | ife (c : CE) (a b : CSs)
  | whl (c : CE) (b : CSs)
  | fr (tg : Tg) (it : CI) (b : CSs)
  | brk | cnt | pass | raise
  | try_ (b : CSs)
inductive CSs where | nil | cons (s : CS) (ss : CSs)
end

def evalSl : CEs → En → Option (List Slot × En)
  | .nil, env => some ([], env)
  | .cons e es, env => match evalE cl e env with
    | some (s, e1) => bindSs (evalSl es e1) fun ss e2 => some (s :: ss, e2)
    | none => none

def whlLoop (c : En → Option (Bool × En)) (b : En → Option Flo) : Nat → En → Option Flo
  | 0, _ => none
  | n + 1, env => match c env with
    | some (true, e1) => match b e1 with
      | some (.nx e2) => whlLoop c b n e2
      | some (.ct e2) => whlLoop c b n e2
      | some (.bk e2) => some (.nx e2)
      | some (.rt r e2) => some (.rt r e2)
      | none => none
    | some (false, e1) => some (.nx e1)
    | none => none
def forLoop (b : D → En → Option Flo) : List D → En → Option Flo
  | [], env => some (.nx env)
  | x :: xs, env => match b x env with
    | some (.nx e2) => forLoop b xs e2
    | some (.ct e2) => forLoop b xs e2
    | some (.bk e2) => some (.nx e2)
    | some (.rt r e2) => some (.rt r e2)
    | none => none
def bodyAt (t : Tg) (f : En → Option Flo) (x : D) (e : En) : Option Flo := match bindTg t x e with
  | some e2 => f e2
  | none => none

variable (L : Nat)
mutual
def evalS : CS → En → Option Flo
  | .asg (.nm i) e, env => match evalE cl e env with
    | some (s, e1) => (setSlot e1 i s).map .nx
    | none => none
  | .asg (.tp is) e, env => bindV (evalE cl e env) fun d e1 => (bindTg (.tp is) d e1).map .nx
  | .asl is es, env => bindSs (evalSl cl es env) fun ss e1 => (setSlots e1 is ss).map .nx
  | .setix i k e, env => bindV (evalE cl e env) fun d e1 => if (listAt e1 i).isSome then bindV (evalE cl k e1) fun y e2 => match listAt e2 i, y with
      | some ds, .int n => match L2.ixN ds.length n with
        | some j => (putList e2 i (ds.set j d)).map .nx
        | none => none
      | _, _ => none
    else none
  | .app i e, env => if (listAt env i).isSome then bindV (evalE cl e env) fun d e1 => match listAt e1 i with
      | some ds => if ds.length < sizeLine then (putList e1 i (ds ++ [d])).map .nx else none
      | none => none
    else none
  | .ext i e, env => if (listAt env i).isSome then match evalE cl e env with
      | some (.own zs, e1) => match listAt e1 i with
        | some ds => if ds.length + zs.length ≤ sizeLine then (putList e1 i (ds ++ zs)).map .nx else none
        | none => none
      | _ => none
    else none
  | .drop e, env => match evalE cl e env with
    | some (_, e1) => some (.nx e1)
    | none => none
  | .ret e, env => match evalE cl e env with
    | some (s, e1) => some (.rt s e1)
    | none => none
  | .retv i, env => match env[i]? with
    | some (.val d) => some (.rt (.val d) env)
    | some (.own ds) => some (.rt (.own ds) (env.set i .nil))
    | _ => none
  | .ret0, env => some (.rt (.val .non) env)
  | .ife c a b, env => bindB (evalT cl c env) fun x e1 => if x then evalSs a e1 else evalSs b e1
  | .whl c b, env => whlLoop (evalT cl c) (evalSs b) L env
  | .fr tg it b, env => bindDs (evalI cl it env) fun xs e1 => forLoop (bodyAt tg fun e => evalSs b e) xs e1
  | .brk, env => some (.bk env)
  | .cnt, env => some (.ct env)
  | .pass, env => some (.nx env)
  | .raise, _ => none
  | .try_ b, env => evalSs b env
def evalSs : CSs → En → Option Flo
  | .nil, env => some (.nx env)
  | .cons s ss, env => match evalS s env with
    | some (.nx e1) => evalSs ss e1
    | f => f
end
end

structure CDef where
  mask : List Bool
  size : Nat
  body : CSs

def argSlots : List Bool → List Slot → Option (List Slot)
  | [], [] => some []
  | true :: ms, .own ds :: ss => (argSlots ms ss).map (.io ds :: ·)
  | false :: ms, .val d :: ss => (argSlots ms ss).map (.val d :: ·)
  | _, _ => none
def outsOf : List Bool → En → Option (List (List D))
  | [], _ => some []
  | true :: ms, .io ds :: env => (outsOf ms env).map (ds :: ·)
  | false :: ms, _ :: env => outsOf ms env
  | _, _ => none
def runDef (cl : Oracle) (L : Nat) (d : CDef) (args : List Slot) : Option (Slot × List (List D)) :=
  match argSlots d.mask args with
  | some ss => match evalSs cl L d.body (ss ++ List.replicate (d.size - ss.length) .nil) with
    | some (.nx e) => (outsOf d.mask e).map fun o => (.val .non, o)
    | some (.rt r e) => (outsOf d.mask e).map fun o => (r, o)
    | _ => none
  | none => none
def call (tab : Nat → Option CDef) (L : Nat) : Nat → Oracle
  | 0, _, _ => none
  | n + 1, j, args => match tab j with
    | some d => runDef (call tab L n) L d args
    | none => none
end Pi

-- PiBase
set_option maxHeartbeats 1000000
namespace Pi
open PySem PySem.Spec PyProof.Rows L2

structure Rc where
  K : PySem.W.Frag
  fa : Nat → Addr
structure Gh extends Rc where
  H0 : Hp
  io : List (Nat × Addr)

def Fz (K : PySem.W.Frag) (H : Hp) (a : Addr) (xs : List V) : Prop := (∃ o, H a = some (.frz o (.lst xs))) ∨
  ∃ (o : Obj) (its : Array Value) (n : Nat), K.lookup a = some o ∧ o.cls = .type "list" ∧ o.dict = none ∧ o.data = .seq its n ∧ its.size ≤ sizeLine ∧ Vals xs its.toList
theorem Fz.seq {K : PySem.W.Frag} {H : Hp} {a : Addr} {xs : List V} (h : Fz K H a xs) : SqL K H a xs := by
  rcases h with h | h
  · exact .inl (.inr h)
  · exact .inr h

theorem Fz.seqX {K K' : PySem.W.Frag} {H : Hp} {a : Addr} {xs : List V} (h : Fz K H a xs) (e : K' = K) : SqL K' H a xs := by
  subst e
  exact h.seq

mutual
def Rep (G : Rc) (H : Hp) : V → D → Prop
  | v, .non => v = .non
  | v, .bl b => v = .bl b
  | v, .int i => v = .int i
  | v, .str x => v = .str x
  | v, .tup ds => ∃ a xs, v = .ref a ∧ SqT G.K H a xs ∧ Reps G H xs ds
  | v, .ls ds => ∃ a xs, v = .ref a ∧ Fz G.K H a xs ∧ Reps G H xs ds
  | v, .fn j => v = .ref (G.fa j)
def Reps (G : Rc) (H : Hp) : List V → List D → Prop
  | [], [] => True
  | v :: vs, d :: ds => Rep G H v d ∧ Reps G H vs ds
  | _, _ => False
end
structure Kp (H H' : Hp) : Prop where
  tup : ∀ a xs, H a = some (.tup xs) → H' a = some (.tup xs)
  frz : ∀ a o u, H a = some (.frz o u) → H' a = some (.frz o u)
theorem Kp.refl (H : Hp) : Kp H H := ⟨fun _ _ h => h, fun _ _ _ h => h⟩
theorem Kp.trans {H H1 H2 : Hp} (a : Kp H H1) (b : Kp H1 H2) : Kp H H2 := ⟨fun x y h => b.tup _ _ (a.tup _ _ h), fun x y z h => b.frz _ _ _ (a.frz _ _ _ h)⟩
theorem Kp.sqt {K : PySem.W.Frag} {H H' : Hp} {a : Addr} {xs : List V} (k : Kp H H') (h : SqT K H a xs) : SqT K H' a xs := by
  rcases h with (h | ⟨o, h⟩) | h
  · exact .inl (.inl (k.tup _ _ h))
  · exact .inl (.inr ⟨o, k.frz _ _ _ h⟩)
  · exact .inr h
theorem Kp.fz {K : PySem.W.Frag} {H H' : Hp} {a : Addr} {xs : List V} (k : Kp H H') (h : Fz K H a xs) : Fz K H' a xs := by
  rcases h with ⟨o, h⟩ | h
  · exact .inl ⟨o, k.frz _ _ _ h⟩
  · exact .inr h
section
variable {G : Rc} {H H' : Hp} {v : V} {vs : List V} {d : D} {ds : List D} {i : Int} {b : Bool} {x : Str} {j : Nat}
theorem rep_non : Rep G H v .non ↔ v = .non := by simp only [Rep]
theorem rep_bl : Rep G H v (.bl b) ↔ v = .bl b := by simp only [Rep]
theorem rep_int : Rep G H v (.int i) ↔ v = .int i := by simp only [Rep]
theorem rep_str : Rep G H v (.str x) ↔ v = .str x := by simp only [Rep]
theorem rep_fn : Rep G H v (.fn j) ↔ v = .ref (G.fa j) := by simp only [Rep]
theorem rep_tup : Rep G H v (.tup ds) ↔ ∃ a xs, v = .ref a ∧ SqT G.K H a xs ∧ Reps G H xs ds := by simp only [Rep]
theorem rep_ls : Rep G H v (.ls ds) ↔ ∃ a xs, v = .ref a ∧ Fz G.K H a xs ∧ Reps G H xs ds := by simp only [Rep]
theorem reps_nil : Reps G H vs [] ↔ vs = [] := by cases vs <;> simp [Reps]
theorem reps_cons : Reps G H vs (d :: ds) ↔ ∃ v r, vs = v :: r ∧ Rep G H v d ∧ Reps G H r ds := by
  cases vs with
  | nil => simp [Reps]
  | cons v r =>
    rw [Reps]
    exact ⟨fun h => ⟨v, r, rfl, h⟩, fun ⟨_, _, e, h⟩ => by cases e; exact h⟩
theorem reps_nil' : Reps G H [] ds ↔ ds = [] := by cases ds <;> simp [Reps]
theorem reps_cons' : Reps G H (v :: vs) ds ↔ ∃ d r, ds = d :: r ∧ Rep G H v d ∧ Reps G H vs r := by
  cases ds with
  | nil => simp [Reps]
  | cons d r =>
    rw [Reps]
    exact ⟨fun h => ⟨d, r, rfl, h⟩, fun ⟨_, _, e, h⟩ => by cases e; exact h⟩
mutual
theorem Rep.keep (k : Kp H H') : ∀ (d : D) (v : V), Rep G H v d → Rep G H' v d
  | .non, _, h => by rw [rep_non] at *; exact h
  | .bl _, _, h => by rw [rep_bl] at *; exact h
  | .int _, _, h => by rw [rep_int] at *; exact h
  | .str _, _, h => by rw [rep_str] at *; exact h
  | .fn _, _, h => by rw [rep_fn] at *; exact h
  | .tup ds, _, h => by
    rw [rep_tup] at *
    obtain ⟨a, xs, e, q, r⟩ := h
    exact ⟨a, xs, e, k.sqt q, Reps.keep k ds xs r⟩
  | .ls ds, _, h => by
    rw [rep_ls] at *
    obtain ⟨a, xs, e, q, r⟩ := h
    exact ⟨a, xs, e, k.fz q, Reps.keep k ds xs r⟩
theorem Reps.keep (k : Kp H H') : ∀ (ds : List D) (vs : List V), Reps G H vs ds → Reps G H' vs ds
  | [], _, h => by rw [reps_nil] at *; exact h
  | d :: ds, vs, h => by
    rw [reps_cons] at *
    obtain ⟨v, r, e, h1, h2⟩ := h
    exact ⟨v, r, e, Rep.keep k d v h1, Reps.keep k ds r h2⟩
end
theorem Reps.length : ∀ {ds : List D} {vs : List V}, Reps G H vs ds → vs.length = ds.length
  | [], _, h => by rw [reps_nil] at h; subst h; rfl
  | d :: ds, vs, h => by
    rw [reps_cons] at h
    obtain ⟨v, r, e, h1, h2⟩ := h
    subst e
    simp [Reps.length h2]
theorem Reps.get : ∀ {ds : List D} {vs : List V} {i : Nat} {d : D}, Reps G H vs ds → ds[i]? = some d → ∃ v, vs[i]? = some v ∧ Rep G H v d
  | [], _, _, _, h, e => by simp at e
  | d :: ds, vs, i, d', h, e => by
    rw [reps_cons] at h
    obtain ⟨v, r, rfl, h1, h2⟩ := h
    cases i with
    | zero => simp at e; subst e; exact ⟨v, rfl, h1⟩
    | succ i =>
      simp at e
      obtain ⟨w, e1, e2⟩ := Reps.get h2 e
      exact ⟨w, by simpa using e1, e2⟩
theorem Reps.append : ∀ {ds es : List D} {vs ws : List V}, Reps G H vs ds → Reps G H ws es → Reps G H (vs ++ ws) (ds ++ es)
  | [], _, _, _, h, h' => by rw [reps_nil] at h; subst h; exact h'
  | d :: ds, es, vs, ws, h, h' => by
    rw [reps_cons] at h
    obtain ⟨v, r, rfl, h1, h2⟩ := h
    exact reps_cons.mpr ⟨v, r ++ ws, rfl, h1, Reps.append h2 h'⟩
theorem Reps.take : ∀ {ds : List D} {vs : List V} (n : Nat), Reps G H vs ds → Reps G H (vs.take n) (ds.take n)
  | ds, vs, 0, h => by simp [reps_nil]
  | [], vs, n + 1, h => by rw [reps_nil] at h; subst h; simp [reps_nil]
  | d :: ds, vs, n + 1, h => by
    rw [reps_cons] at h
    obtain ⟨v, r, rfl, h1, h2⟩ := h
    exact reps_cons.mpr ⟨v, _, rfl, h1, Reps.take n h2⟩
theorem Reps.drop : ∀ {ds : List D} {vs : List V} (n : Nat), Reps G H vs ds → Reps G H (vs.drop n) (ds.drop n)
  | ds, vs, 0, h => h
  | [], vs, n + 1, h => by rw [reps_nil] at h; subst h; simp [reps_nil]
  | d :: ds, vs, n + 1, h => by
    rw [reps_cons] at h
    obtain ⟨v, r, rfl, h1, h2⟩ := h
    exact Reps.drop n h2
theorem Reps.set : ∀ {ds : List D} {vs : List V} (n : Nat) {d : D} {v : V}, Reps G H vs ds → Rep G H v d → Reps G H (vs.set n v) (ds.set n d)
  | [], vs, n, _, _, h, _ => by rw [reps_nil] at h; subst h; simp [reps_nil]
  | d :: ds, vs, n, e, w, h, hr => by
    rw [reps_cons] at h
    obtain ⟨v, r, rfl, h1, h2⟩ := h
    cases n with
    | zero => exact reps_cons.mpr ⟨w, r, rfl, hr, h2⟩
    | succ n => exact reps_cons.mpr ⟨v, _, rfl, h1, Reps.set n h2 hr⟩
theorem Reps.rev : ∀ {ds : List D} {vs : List V}, Reps G H vs ds → Reps G H vs.reverse ds.reverse
  | [], vs, h => by rw [reps_nil] at h; subst h; simp [reps_nil]
  | d :: ds, vs, h => by
    rw [reps_cons] at h
    obtain ⟨v, r, rfl, h1, h2⟩ := h
    rw [List.reverse_cons, List.reverse_cons]
    exact (Reps.rev h2).append (reps_cons.mpr ⟨v, [], rfl, h1, by rw [reps_nil]⟩)
theorem Reps.dropLast {ds : List D} {vs : List V} (h : Reps G H vs ds) : Reps G H vs.dropLast ds.dropLast := by
  rw [List.dropLast_eq_take, List.dropLast_eq_take, h.length]
  exact h.take _
theorem Reps.repl {ds : List D} {vs : List V} (h : Reps G H vs ds) : ∀ n : Nat, Reps G H (List.replicate n vs).flatten (List.replicate n ds).flatten
  | 0 => by simp [reps_nil]
  | n + 1 => by
    rw [List.replicate_succ, List.replicate_succ, List.flatten_cons, List.flatten_cons]
    exact h.append (h.repl n)
theorem Reps.cut {ds : List D} {vs : List V} (lo hi : Option Int) (h : Reps G H vs ds) : Reps G H (cutV vs lo hi) (cutD ds lo hi) := by
  unfold cutV cutD
  rw [h.length]
  exact (h.drop _).take _
theorem Reps.atI {ds : List D} {vs : List V} {k : Int} {d : D} (h : Reps G H vs ds) (e : L2.atI ds k = some d) : ∃ v, L2.atI vs k = some v ∧ Rep G H v d := by
  unfold L2.atI at *
  rw [h.length]
  cases q : ixN ds.length k with
  | none => rw [q] at e; simp at e
  | some j =>
    rw [q] at e
    simp only [Option.bind_some] at e ⊢
    exact h.get e
theorem allInt_of : ∀ {ds : List D} {ns : List Int} {vs : List V}, allInt ds = some ns → Reps G H vs ds → vs = ns.map V.int
  | [], ns, vs, e, h => by
    rw [reps_nil] at h
    simp only [allInt] at e
    cases e
    subst h
    rfl
  | d :: ds, ns, vs, e, h => by
    rw [reps_cons] at h
    obtain ⟨v, r, rfl, h1, h2⟩ := h
    cases d <;> simp only [allInt] at e <;> try cases e
    rename_i i
    cases q : allInt ds with
    | none => rw [q] at e; simp at e
    | some ms =>
      rw [q] at e
      simp at e
      subst e
      rw [rep_int] at h1
      subst h1
      rw [allInt_of q h2]
      rfl
theorem allBl_of : ∀ {ds : List D} {ns : List Bool} {vs : List V}, allBl ds = some ns → Reps G H vs ds → vs = ns.map V.bl
  | [], ns, vs, e, h => by
    rw [reps_nil] at h
    simp only [allBl] at e
    cases e
    subst h
    rfl
  | d :: ds, ns, vs, e, h => by
    rw [reps_cons] at h
    obtain ⟨v, r, rfl, h1, h2⟩ := h
    cases d <;> simp only [allBl] at e <;> try cases e
    rename_i i
    cases q : allBl ds with
    | none => rw [q] at e; simp at e
    | some ms =>
      rw [q] at e
      simp at e
      subst e
      rw [rep_bl] at h1
      subst h1
      rw [allBl_of q h2]
      rfl
mutual
theorem Rep.dp : ∀ (d : D) (v : V), Rep G H v d → d.toPy.canLay0 = true → Dp G.K H v d.toPy
  | .non, v, h, _ => by rw [rep_non] at h; subst h; rw [D.toPy]; exact .non
  | .bl _, v, h, _ => by rw [rep_bl] at h; subst h; rw [D.toPy]; exact .bl _
  | .int _, v, h, _ => by rw [rep_int] at h; subst h; rw [D.toPy]; exact .int _
  | .str _, v, h, _ => by rw [rep_str] at h; subst h; rw [D.toPy]; exact .str _
  | .fn _, v, h, c => by rw [D.toPy, PyData.canLay0] at c; cases c
  | .tup ds, v, h, c => by
    rw [rep_tup] at h
    obtain ⟨a, xs, rfl, q, r⟩ := h
    rw [D.toPy] at *
    rw [PyData.canLay0] at c
    exact .tup q (Reps.dp ds xs r c)
  | .ls ds, v, h, c => by
    rw [rep_ls] at h
    obtain ⟨a, xs, rfl, q, r⟩ := h
    rw [D.toPy] at *
    rw [PyData.canLay0] at c
    exact .lst q.seq (Reps.dp ds xs r c)
theorem Reps.dp : ∀ (ds : List D) (vs : List V), Reps G H vs ds → PyData.canLayAll0 (D.toPys ds) = true → DpAll G.K H vs (D.toPys ds)
  | [], vs, h, _ => by rw [reps_nil] at h; subst h; rw [D.toPys]; exact .nil
  | d :: ds, vs, h, c => by
    rw [reps_cons] at h
    obtain ⟨v, r, rfl, h1, h2⟩ := h
    rw [D.toPys] at *
    rw [PyData.canLayAll0, Bool.and_eq_true] at c
    exact .cons (Rep.dp d v h1 c.1) (Reps.dp ds r h2 c.2)
end
end
mutual
theorem eqv_py : ∀ (d e : D), d.toPy.canLay0 = true → e.toPy.canLay0 = true → D.eqv d e = PyData.eqv d.toPy e.toPy
  | .fn _, e, c, _ => by rw [D.toPy, PyData.canLay0] at c; cases c
  | .non, e, _, c => by cases e <;> first | rfl | (rw [D.toPy, PyData.canLay0] at c; cases c) | simp [D.toPy, D.eqv, PyData.eqv]
  | .bl _, e, _, c => by cases e <;> first | rfl | (rw [D.toPy, PyData.canLay0] at c; cases c) | simp [D.toPy, D.eqv, PyData.eqv]
  | .int _, e, _, c => by cases e <;> first | rfl | (rw [D.toPy, PyData.canLay0] at c; cases c) | simp [D.toPy, D.eqv, PyData.eqv]
  | .str _, e, _, c => by cases e <;> first | rfl | (rw [D.toPy, PyData.canLay0] at c; cases c) | simp [D.toPy, D.eqv, PyData.eqv]
  | .tup ds, e, c1, c => by
    cases e with
    | tup es =>
      rw [D.toPy, PyData.canLay0] at c1 c
      rw [D.eqv, D.toPy, D.toPy, PyData.eqv]
      exact eqvs_py ds es c1 c
    | fn _ => rw [D.toPy, PyData.canLay0] at c; cases c
    | _ => simp [D.toPy, D.eqv, PyData.eqv]
  | .ls ds, e, c1, c => by
    cases e with
    | ls es =>
      rw [D.toPy, PyData.canLay0] at c1 c
      rw [D.eqv, D.toPy, D.toPy, PyData.eqv]
      exact eqvs_py ds es c1 c
    | fn _ => rw [D.toPy, PyData.canLay0] at c; cases c
    | _ => simp [D.toPy, D.eqv, PyData.eqv]
theorem eqvs_py : ∀ (ds es : List D), PyData.canLayAll0 (D.toPys ds) = true → PyData.canLayAll0 (D.toPys es) = true → D.eqvs ds es = PyData.eqvAll (D.toPys ds) (D.toPys es)
  | [], [], _, _ => by simp [D.eqvs, D.toPys, PyData.eqvAll]
  | [], _ :: _, _, _ => by simp [D.eqvs, D.toPys, PyData.eqvAll]
  | _ :: _, [], _, _ => by simp [D.eqvs, D.toPys, PyData.eqvAll]
  | d :: ds, e :: es, c1, c2 => by
    rw [D.toPys, PyData.canLayAll0, Bool.and_eq_true] at c1 c2
    rw [D.eqvs, D.toPys, D.toPys, PyData.eqvAll, eqv_py d e c1.1 c2.1, eqvs_py ds es c1.2 c2.2]
end

def Slot.isMut : Slot → Bool
  | .own _ => true
  | .io _ => true
  | _ => false
abbrev Sg := L2.St
def SlotOk (G : Gh) (H : Hp) (σ : Sg) (i : Nat) : Slot → Prop
  | .nil => True
  | .val d => ∃ v, σ[i]? = some (some v) ∧ Rep G.toRc H v d
  | .own ds => ∃ a xs, σ[i]? = some (some (.ref a)) ∧ H a = some (.lst xs) ∧ Reps G.toRc H xs ds ∧ G.H0 a = none
  | .io ds => ∃ a xs, σ[i]? = some (some (.ref a)) ∧ H a = some (.lst xs) ∧ Reps G.toRc H xs ds ∧ (i, a) ∈ G.io
def MutAt (env : En) (σ : Sg) (a : Addr) : Prop := ∃ (i : Nat) (s : Slot), env[i]? = some s ∧ s.isMut = true ∧ σ[i]? = some (some (V.ref a))
structure EnvOk (G : Gh) (env : En) (σ : Sg) (H : Hp) : Prop where
  len : env.length = σ.length
  slot : ∀ (i : Nat) (s : Slot), env[i]? = some s → SlotOk G H σ i s
  sep : ∀ (i j : Nat) (s t : Slot) (a : Addr), env[i]? = some s → env[j]? = some t → s.isMut = true → t.isMut = true → σ[i]? = some (some (V.ref a)) → σ[j]? = some (some (V.ref a)) → i = j
  fr : ∀ a o, G.H0 a = some o → a ∉ G.io.map (·.2) → H a = some o
  iok : ∀ p ∈ G.io, ∃ ds, env[p.1]? = some (Slot.io ds) ∧ σ[p.1]? = some (some (V.ref p.2))
structure Fr (env : En) (σ : Sg) (H H' : Hp) : Prop where
  keep : ∀ a o, H a = some o → ¬ MutAt env σ a → H' a = some o
  trk : ∀ a, H' a = none → H a = none
abbrev Ext (H H' : Hp) : Prop := ∀ a o, H a = some o → H' a = some o
structure Post (G : Gh) (env : En) (σ : Sg) (H : Hp) (env' : En) (H' : Hp) : Prop where
  ok : EnvOk G env' σ H'
  fr : Fr env σ H H'
  sub : ∀ (i : Nat) (s : Slot), env'[i]? = some s → s.isMut = true → ∃ s0, env[i]? = some s0 ∧ s0.isMut = true
section
variable {G : Gh} {env env1 env2 : En} {σ : Sg} {H H1 H2 : Hp} {a : Addr}
theorem MutAt.lst (E : EnvOk G env σ H) (m : MutAt env σ a) : ∃ xs, H a = some (.lst xs) := by
  obtain ⟨i, s, e, hm, q⟩ := m
  have z := E.slot i s e
  cases s with
  | nil => cases hm
  | val d => cases hm
  | own ds =>
    obtain ⟨a', xs, q', h, _⟩ := z
    rw [q] at q'; cases q'
    exact ⟨xs, h⟩
  | io ds =>
    obtain ⟨a', xs, q', h, _⟩ := z
    rw [q] at q'; cases q'
    exact ⟨xs, h⟩
theorem Fr.kp (E : EnvOk G env σ H) (f : Fr env σ H H1) : Kp H H1 := by
  refine ⟨fun a xs h => f.keep a _ h fun m => ?_, fun a o u h => f.keep a _ h fun m => ?_⟩
  · obtain ⟨ys, q⟩ := m.lst E
    rw [h] at q; cases q
  · obtain ⟨ys, q⟩ := m.lst E
    rw [h] at q; cases q
theorem Fr.refl : Fr env σ H H := ⟨fun _ _ h _ => h, fun _ h => h⟩
theorem Ext.kp (x : Ext H H1) : Kp H H1 := ⟨fun a xs h => x a _ h, fun a o u h => x a _ h⟩
theorem Ext.none (x : Ext H H1) (h : H1 a = Option.none) : H a = Option.none := by
  cases q : H a with
  | none => rfl
  | some o => rw [x a o q] at h; cases h
theorem SlotOk.ext {i : Nat} {s : Slot} (x : Ext H H1) (h : SlotOk G H σ i s) : SlotOk G H1 σ i s := by
  cases s with
  | nil => trivial
  | val d =>
    obtain ⟨v, e, r⟩ := h
    exact ⟨v, e, r.keep x.kp⟩
  | own ds =>
    obtain ⟨a, xs, e, h1, r, z⟩ := h
    exact ⟨a, xs, e, x a _ h1, r.keep x.kp, z⟩
  | io ds =>
    obtain ⟨a, xs, e, h1, r, z⟩ := h
    exact ⟨a, xs, e, x a _ h1, r.keep x.kp, z⟩
theorem EnvOk.ext (E : EnvOk G env σ H) (x : Ext H H1) : EnvOk G env σ H1 :=
  ⟨E.len, fun i s e => (E.slot i s e).ext x, E.sep, fun a o h n => x a o (E.fr a o h n), E.iok⟩
theorem Post.mut (p : Post G env σ H env1 H1) (m : MutAt env1 σ a) : MutAt env σ a := by
  obtain ⟨i, s, e, hm, q⟩ := m
  obtain ⟨s0, e0, m0⟩ := p.sub i s e hm
  exact ⟨i, s0, e0, m0, q⟩
theorem Post.refl (E : EnvOk G env σ H) : Post G env σ H env H := ⟨E, Fr.refl, fun i s e m => ⟨s, e, m⟩⟩
theorem Post.trans (p : Post G env σ H env1 H1) (q : Post G env1 σ H1 env2 H2) : Post G env σ H env2 H2 :=
  ⟨q.ok, ⟨fun a o h m => q.fr.keep a o (p.fr.keep a o h m) fun z => m (p.mut z), fun a h => p.fr.trk a (q.fr.trk a h)⟩, fun i s e m => by
    obtain ⟨s1, e1, m1⟩ := q.sub i s e m
    exact p.sub i s1 e1 m1⟩
theorem Post.ext (p : Post G env σ H env1 H1) (x : Ext H1 H2) : Post G env σ H env1 H2 :=
  ⟨p.ok.ext x, ⟨fun a o h m => x a o (p.fr.keep a o h m), fun a h => p.fr.trk a (x.none h)⟩, p.sub⟩
theorem Post.of_ext (E : EnvOk G env σ H) (x : Ext H H1) : Post G env σ H env H1 := (Post.refl E).ext x
theorem EnvOk.fresh (E : EnvOk G env σ H) (h : H a = none) : G.H0 a = none := by
  cases q : G.H0 a with
  | none => rfl
  | some o =>
    by_cases m : a ∈ G.io.map (·.2)
    · obtain ⟨p, hp, rfl⟩ := List.mem_map.mp m
      obtain ⟨ds, e, es⟩ := E.iok p hp
      obtain ⟨a', xs, e', h', _⟩ := E.slot _ _ e
      rw [es] at e'; cases e'
      rw [h] at h'; cases h'
    · rw [E.fr a o q m] at h; cases h
end
end Pi

-- PiExpr
set_option maxHeartbeats 1000000
namespace Pi
open PySem PySem.Spec PyProof.Rows L2

theorem bindV_some {β : Type} {x : Option (Slot × En)} {f : D → En → Option β} {r : β} (h : bindV x f = some r) : ∃ s d e, x = some (s, e) ∧ s.toD = some d ∧ f d e = some r := by
  unfold bindV at h
  split at h
  · exact ⟨_, _, _, rfl, rfl, h⟩
  · exact ⟨_, _, _, rfl, rfl, h⟩
  · cases h
theorem bindB_some' {β : Type} {x : Option (Bool × En)} {f : Bool → En → Option β} {r : β} (h : bindB x f = some r) : ∃ b e, x = some (b, e) ∧ f b e = some r := by
  unfold bindB at h
  split at h
  · exact ⟨_, _, rfl, h⟩
  · cases h
theorem bindDs_some' {β : Type} {x : Option (List D × En)} {f : List D → En → Option β} {r : β} (h : bindDs x f = some r) : ∃ b e, x = some (b, e) ∧ f b e = some r := by
  unfold bindDs at h
  split at h
  · exact ⟨_, _, rfl, h⟩
  · cases h
theorem bindSs_some' {β : Type} {x : Option (List Slot × En)} {f : List Slot → En → Option β} {r : β} (h : bindSs x f = some r) : ∃ b e, x = some (b, e) ∧ f b e = some r := by
  unfold bindSs at h
  split at h
  · exact ⟨_, _, rfl, h⟩
  · cases h
theorem map_some' {α β : Type} {x : Option α} {f : α → β} {r : β} (h : x.map f = some r) : ∃ a, x = some a ∧ f a = r := by
  cases x with
  | none => cases h
  | some a => exact ⟨a, rfl, by simpa using h⟩

section
variable {X : Cx} {G : Gh} {cl : Oracle} {e : Expr}
theorem pe_imp {t t' : TE} (h : PE X e t) (f : ∀ σ H Q, t' σ H Q → t σ H Q) : PE X e t' := ⟨fun pins s σ H Q I q => h.run pins s σ H Q I (f σ H Q q)⟩
theorem pt_imp {t t' : TT} (h : PT X e t) (f : ∀ σ H Q, t' σ H Q → t σ H Q) : PT X e t' := ⟨fun pins s σ H Q I q => h.run pins s σ H Q I (f σ H Q q)⟩
theorem pa_imp {es : List Expr} {t t' : TA} (h : PA X es t) (f : ∀ σ H Q, t' σ H Q → t σ H Q) : PA X es t' := ⟨fun pos pins s σ H Q I q => h.run pos pins s σ H Q I (f σ H Q q)⟩

def SlotRep (G : Gh) (H H' : Hp) : Slot → V → Prop
  | .val d, v => Rep G.toRc H' v d
  | .own ds, v => ∃ a xs, v = .ref a ∧ H a = none ∧ H' a = some (.lst xs) ∧ Reps G.toRc H' xs ds
  | _, _ => False
theorem sr_bl {H H' : Hp} {b : Bool} : SlotRep G H H' (.val (.bl b)) (.bl b) := show Rep G.toRc H' (.bl b) (.bl b) from rep_bl.mpr rfl
theorem sr_int {H H' : Hp} {b : Int} : SlotRep G H H' (.val (.int b)) (.int b) := show Rep G.toRc H' (.int b) (.int b) from rep_int.mpr rfl
theorem sr_non {H H' : Hp} : SlotRep G H H' (.val .non) .non := show Rep G.toRc H' .non .non from rep_non.mpr rfl
theorem sr_val {H H' : Hp} {d : D} {v : V} (h : Rep G.toRc H' v d) : SlotRep G H H' (.val d) v := h
def tE (G : Gh) (cl : Oracle) (c : CE) : TE := fun σ H Q => ∃ env s env', EnvOk G env σ H ∧ evalE cl c env = some (s, env') ∧ ∀ v H', Post G env σ H env' H' → SlotRep G H H' s v → Q v H'
def tV (G : Gh) (cl : Oracle) (c : CE) : TE := fun σ H Q => ∃ env s env' d, EnvOk G env σ H ∧ evalE cl c env = some (s, env') ∧ s.toD = some d ∧ ∀ v H', Post G env σ H env' H' → Rep G.toRc H' v d → Q v H'
def tT (G : Gh) (cl : Oracle) (c : CE) : TT := fun σ H Q => ∃ env b env', EnvOk G env σ H ∧ evalT cl c env = some (b, env') ∧ ∀ H', Post G env σ H env' H' → Q b H'

theorem Kp.put {H : Hp} {a : Addr} {xs : List V} {o : HO} (h : H a = some (.lst xs)) : Kp H (upd H a o) := by
  refine ⟨fun b ys q => ?_, fun b ob u q => ?_⟩
  · rw [upd_ne (fun z => by rw [z, h] at q; cases q)]; exact q
  · rw [upd_ne (fun z => by rw [z, h] at q; cases q)]; exact q
theorem upd_trk {H : Hp} {a b : Addr} {o : HO} (h : upd H a o b = none) : H b = none := by
  unfold upd at h
  split at h
  · cases h
  · exact h
theorem slot_put {H : Hp} {a : Addr} {xs : List V} {o : HO} {σ : Sg} {i : Nat} {s : Slot} (h : H a = some (.lst xs)) (n : s.isMut = true → σ[i]? ≠ some (some (V.ref a))) (q : SlotOk G H σ i s) : SlotOk G (upd H a o) σ i s := by
  cases s with
  | nil => trivial
  | val d =>
    obtain ⟨v, e, r⟩ := q
    exact ⟨v, e, r.keep (Kp.put h)⟩
  | own ds =>
    obtain ⟨b, ys, e, h1, r, z⟩ := q
    have nb : b ≠ a := fun w => n rfl (by rw [← w]; exact e)
    exact ⟨b, ys, e, by rw [upd_ne nb]; exact h1, r.keep (Kp.put h), z⟩
  | io ds =>
    obtain ⟨b, ys, e, h1, r, z⟩ := q
    have nb : b ≠ a := fun w => n rfl (by rw [← w]; exact e)
    exact ⟨b, ys, e, by rw [upd_ne nb]; exact h1, r.keep (Kp.put h), z⟩
theorem EnvOk.other {env : En} {σ : Sg} {H : Hp} {a : Addr} {xs : List V} {o : HO} (E : EnvOk G env σ H) (h : H a = some (.lst xs)) (n : ¬ MutAt env σ a) (z : G.H0 a = none) : EnvOk G env σ (upd H a o) := by
  refine ⟨E.len, fun i s e => slot_put h (fun m q => n ⟨i, s, e, m, q⟩) (E.slot i s e), E.sep, fun b ob q nb => ?_, E.iok⟩
  rw [upd_ne (fun w => by rw [w, z] at q; cases q)]
  exact E.fr b ob q nb
theorem EnvOk.put {env : En} {σ : Sg} {H : Hp} {i : Nat} {s s' : Slot} {a : Addr} {o : HO} (E : EnvOk G env σ H) (he : env[i]? = some s) (hm : s.isMut = true) (hσ : σ[i]? = some (some (V.ref a))) (hs : SlotOk G (upd H a o) σ i s')
    (hio : ∀ ds, s = .io ds → ∃ ds', s' = .io ds') : EnvOk G (env.set i s') σ (upd H a o) := by
  obtain ⟨xs, h⟩ := MutAt.lst E ⟨i, s, he, hm, hσ⟩
  have hi : i < env.length := (List.getElem?_eq_some_iff.mp he).1
  have old : ∀ j t, (env.set i s')[j]? = some t → (j = i ∧ t = s') ∨ (j ≠ i ∧ env[j]? = some t) := fun j t e => by
    by_cases hj : j = i
    · subst hj
      rw [List.getElem?_set_self hi] at e
      exact .inl ⟨rfl, (Option.some.inj e).symm⟩
    · rw [List.getElem?_set_ne (Ne.symm hj)] at e
      exact .inr ⟨hj, e⟩
  refine ⟨by rw [List.length_set]; exact E.len, fun j t e => ?_, fun j k t u b e1 e2 m1 m2 q1 q2 => ?_, fun b ob q nb => ?_, fun p hp => ?_⟩
  · rcases old j t e with ⟨rfl, rfl⟩ | ⟨hj, e⟩
    · exact hs
    · exact slot_put h (fun m q => hj (E.sep j i t s a e he m hm q hσ)) (E.slot j t e)
  · rcases old j t e1 with ⟨ej, et⟩ | ⟨hj, f1⟩
    · rcases old k u e2 with ⟨ek, eu⟩ | ⟨hk, f2⟩
      · rw [ej, ek]
      · rw [ej] at q1 ⊢
        exact E.sep i k s u b he f2 hm m2 q1 q2
    · rcases old k u e2 with ⟨ek, eu⟩ | ⟨hk, f2⟩
      · rw [ek] at q2 ⊢
        exact E.sep j i t s b f1 he m1 hm q1 q2
      · exact E.sep j k t u b f1 f2 m1 m2 q1 q2
  · have z := E.slot i s he
    have nba : b ≠ a := fun w => by
      subst w
      cases s with
      | nil => cases hm
      | val d => cases hm
      | own ds =>
        obtain ⟨c, ys, e, _, _, z⟩ := z
        rw [hσ] at e; cases e
        rw [q] at z; cases z
      | io ds =>
        obtain ⟨c, ys, e, _, _, z⟩ := z
        rw [hσ] at e; cases e
        exact nb (List.mem_map.mpr ⟨_, z, rfl⟩)
    rw [upd_ne nba]
    exact E.fr b ob q nb
  · obtain ⟨ds, e, q⟩ := E.iok p hp
    by_cases hj : p.1 = i
    · rw [hj, he] at e
      obtain ⟨ds', e'⟩ := hio ds (Option.some.inj e)
      exact ⟨ds', by rw [hj, List.getElem?_set_self hi, e'], q⟩
    · exact ⟨ds, by rw [List.getElem?_set_ne (Ne.symm hj)]; exact e, q⟩
theorem mutAt_set {env : En} {σ : Sg} {i : Nat} {s s' : Slot} {a : Addr} (he : env[i]? = some s) (hm : s.isMut = true) (m : MutAt (env.set i s') σ a) : MutAt env σ a := by
  obtain ⟨j, t, e, mt, q⟩ := m
  have hi : i < env.length := (List.getElem?_eq_some_iff.mp he).1
  by_cases hj : j = i
  · subst hj
    exact ⟨j, s, he, hm, q⟩
  · rw [List.getElem?_set_ne (Ne.symm hj)] at e
    exact ⟨j, t, e, mt, q⟩
theorem Post.put {env : En} {σ : Sg} {H : Hp} {i : Nat} {s s' : Slot} {a : Addr} {o : HO} (E : EnvOk G env σ H) (he : env[i]? = some s) (hm : s.isMut = true) (hσ : σ[i]? = some (some (V.ref a))) (hs : SlotOk G (upd H a o) σ i s')
    (hio : ∀ ds, s = .io ds → ∃ ds', s' = .io ds') : Post G env σ H (env.set i s') (upd H a o) :=
  ⟨E.put he hm hσ hs hio, ⟨fun b ob q n => by rw [upd_ne (fun w => n (by rw [w]; exact ⟨i, s, he, hm, hσ⟩))]; exact q, fun b q => upd_trk q⟩, fun j t e m => by
    by_cases hj : j = i
    · rw [hj]
      exact ⟨s, he, hm⟩
    · rw [List.getElem?_set_ne (Ne.symm hj)] at e
      exact ⟨t, e, m⟩⟩

theorem pe_val {c : CE} (h : PE X e (tE G cl c)) : PE X e (tV G cl c) := by
  refine ⟨fun pins s σ H Q I hq => ?_⟩
  obtain ⟨env, sl, env', d, E, ev, hd, q⟩ := hq
  refine thn (h.run pins s σ H (fun v H' => Post G env σ H env' H' ∧ SlotRep G H H' sl v) I ⟨env, sl, env', E, ev, fun v H' p r => ⟨p, r⟩⟩) fun u s1 ⟨v, H1, I1, r1, p, sr⟩ => ?_
  cases sl with
  | nil => cases hd
  | io ds => cases hd
  | val d' =>
    cases hd
    exact ⟨v, H1, I1, r1, q v H1 p sr⟩
  | own ds =>
    cases hd
    obtain ⟨a, xs, rfl, hn, ha, rs⟩ := sr
    obtain ⟨o, I2⟩ := I1.lock ha trivial
    have nm : ¬ MutAt env' σ a := fun m => by
      obtain ⟨ys, z⟩ := (p.mut m).lst E
      rw [hn] at z; cases z
    refine ⟨.ref a, _, I2, r1, q _ _ ⟨p.ok.other ha nm (E.fresh hn), ⟨fun b ob z m => ?_, fun b z => p.fr.trk b (upd_trk z)⟩, p.sub⟩ (rep_ls.mpr ⟨a, xs, rfl, .inl ⟨o, upd_same⟩, rs.keep (Kp.put ha)⟩)⟩
    rw [upd_ne (fun w => by rw [w, hn] at z; cases z)]
    exact p.fr.keep b ob z m

theorem c_var {i : Nat} {x : Str} {pos : Pos} (hN : X.N[i]? = some x) (hv : Vis X.env.scope x) (hd : (x == ("__debug__" : Str)) = false) (hcd : (x == ("__classdict__" : Str)) = false) : PE X (.Name x pos) (tE G cl (.var i)) := by
  have base : PE X (.Name x pos) (tVar i) := pe_var hN hv hd hcd
  refine ⟨fun pins s σ H Q I hq => ?_⟩
  obtain ⟨env, sl, env', E, ev, q⟩ := hq
  rw [evalE] at ev
  split at ev
  · rename_i d he
    cases ev
    obtain ⟨v, e, r⟩ := E.slot i _ he
    exact base.run pins s σ H Q I ⟨v, e, q v H (Post.refl E) r⟩
  · rename_i ds he
    cases ev
    obtain ⟨a, xs, e, ha, r, z⟩ := E.slot i _ he
    obtain ⟨o, I2⟩ := I.lock ha trivial
    have rr : Rep G.toRc (upd H a (.frz o (.lst xs))) (.ref a) (.ls ds) := rep_ls.mpr ⟨a, xs, rfl, .inl ⟨o, upd_same⟩, r.keep (Kp.put ha)⟩
    exact base.run pins s σ _ Q I2 ⟨.ref a, e, q _ _ (Post.put E he rfl e ⟨_, e, rr⟩ (fun ds h => by cases h)) rr⟩
  · cases ev
theorem c_cst {t : V} {d : D} (h : PE X e (tC t)) (r : ∀ H, Rep G.toRc H t d) : PE X e (tE G cl (.cst d)) := pe_imp h fun σ H Q ⟨env, sl, env', E, ev, q⟩ => by
  rw [evalE] at ev
  cases ev
  exact q t H (Post.refl E) (r H)
theorem c_gc {t : V} {d : D} {x : Str} (h : PE X e (tC t)) (r : ∀ H, Rep G.toRc H t d) : PE X e (tE G cl (.gc x d)) := pe_imp h fun σ H Q ⟨env, sl, env', E, ev, q⟩ => by
  rw [evalE] at ev
  cases ev
  exact q t H (Post.refl E) (r H)
theorem c_gf {t : V} {j : Nat} {x : Str} (h : PE X e (tC t)) (r : ∀ H, Rep G.toRc H t (.fn j)) : PE X e (tE G cl (.gf x j)) := pe_imp h fun σ H Q ⟨env, sl, env', E, ev, q⟩ => by
  rw [evalE] at ev
  cases ev
  exact q t H (Post.refl E) (r H)

def Res (R : Rc) (H : Hp) (s : Slot) (Q : VK) : Prop := ∀ v H', Ext H H' → (match s with
  | .val d => Rep R H' v d
  | .own ds => ∃ a xs, v = .ref a ∧ H a = none ∧ H' a = some (.lst xs) ∧ Reps R H' xs ds
  | _ => False) → Q v H'
def rB (R : Rc) (o : BOp) : R2 := fun v w H Q => ∃ x y s, Rep R H v x ∧ Rep R H w y ∧ evalBin o x y = some s ∧ Res R H s Q
theorem Ext.refl (H : Hp) : Ext H H := fun _ _ h => h
theorem Ext.new {H : Hp} {p : Addr} {o : HO} (h : H p = Option.none) : Ext H (upd H p o) := fun a u e => by
  rw [upd_ne (ne_of_none e h)]
  exact e
theorem Res.of {env env' : En} {σ : Sg} {H H1 : Hp} {s : Slot} {Q : VK} (E : EnvOk G env σ H) (p : Post G env σ H env' H1) (q : ∀ v H', Post G env σ H env' H' → SlotRep G H H' s v → Q v H') : Res G.toRc H1 s Q := fun v H' x r => by
  refine q v H' (p.ext x) ?_
  cases s with
  | val d => exact r
  | own ds =>
    obtain ⟨a, xs, e, hn, ha, rs⟩ := r
    exact ⟨a, xs, e, p.fr.trk a hn, ha, rs⟩
  | _ => exact r
theorem c_bin {a b : Expr} {ca cb : CE} {o : BOp} {op : Operator} {pos : Pos} (ho : OpR X (binaryOp op) (rB G.toRc o)) (ha : PE X a (tE G cl ca)) (hb : PE X b (tE G cl cb)) : PE X (.BinOp a op b pos) (tE G cl (.bin o ca cb)) :=
  pe_imp (pe_op ho (pe_val ha) (pe_val hb)) fun σ H Q ⟨env, sl, env', E, ev, q⟩ => by
    rw [evalE] at ev
    obtain ⟨s1, x, e1, ev1, d1, ev⟩ := bindV_some ev
    obtain ⟨s2, y, e2, ev2, d2, ev⟩ := bindV_some ev
    obtain ⟨s3, ev3, h3⟩ := map_some' ev
    cases h3
    refine ⟨env, s1, e1, x, E, ev1, d1, fun v H1 p1 r1 => ?_⟩
    refine ⟨e1, s2, _, y, p1.ok, ev2, d2, fun w H2 p2 r2 => ?_⟩
    exact ⟨x, y, _, r1.keep (p2.fr.kp p1.ok), r2, ev3, Res.of E (p1.trans p2) q⟩
def rU1 (R : Rc) (f : D → Option Slot) : V → Hp → VK → Prop := fun v H Q => ∃ x s, Rep R H v x ∧ f x = some s ∧ Res R H s Q
theorem c_neg {a : Expr} {ca : CE} {pos : Pos} (ha : PE X a (tE G cl ca)) : PE X (.UnaryOp .USub a pos) (tE G cl (.neg ca)) :=
  pe_imp (pe_un un_neg (pe_val ha)) fun σ H Q ⟨env, sl, env', E, ev, q⟩ => by
    rw [evalE] at ev
    obtain ⟨s1, x, e1, ev1, d1, ev⟩ := bindV_some ev
    cases x <;> try cases ev
    rename_i i
    refine ⟨env, s1, _, _, E, ev1, d1, fun v H1 p1 r1 => ?_⟩
    exact ⟨i, rep_int.mp r1, q _ H1 p1 sr_int⟩
def rC (R : Rc) (o : COp) : R2 := fun v w H Q => ∃ x y b, Rep R H v x ∧ Rep R H w y ∧ evalCmp o x y = some b ∧ Q (.bl b) H
theorem c_cmp {a b : Expr} {ca cb : CE} {o : COp} {op : CmpOp} {pos : Pos} (ho : OpR X (compareOp op) (rC G.toRc o)) (hm : behindInMarks op b = false) (ha : PE X a (tE G cl ca)) (hb : PE X b (tE G cl cb)) : PE X (.Compare a [op] [b] pos) (tE G cl (.cmp o ca cb)) :=
  pe_imp (pe_cmpR ho (pe_val ha) (pe_val hb) hm) fun σ H Q ⟨env, sl, env', E, ev, q⟩ => by
    rw [evalE] at ev
    obtain ⟨s1, x, e1, ev1, d1, ev⟩ := bindV_some ev
    obtain ⟨s2, y, e2, ev2, d2, ev⟩ := bindV_some ev
    obtain ⟨s3, ev3, h3⟩ := map_some' ev
    cases h3
    refine ⟨env, s1, e1, x, E, ev1, d1, fun v H1 p1 r1 => ?_⟩
    refine ⟨e1, s2, _, y, p1.ok, ev2, d2, fun w H2 p2 r2 => ?_⟩
    exact ⟨x, y, _, r1.keep (p2.fr.kp p1.ok), r2, ev3, q _ H2 (p1.trans p2) sr_bl⟩
theorem c_chain {a b c : Expr} {ca cb cc : CE} {o o' : COp} {op op' : CmpOp} {pos : Pos} (ho : OpR X (compareOp op) (rC G.toRc o)) (ho' : OpR X (compareOp op') (rC G.toRc o')) (hm : lastMarks [op, op'] [b, c] = false) (ha : PE X a (tE G cl ca)) (hb : PE X b (tE G cl cb)) (hc : PE X c (tE G cl cc))
    (base : PE X (.Compare a [op, op'] [b, c] pos) (tChain (rC G.toRc o) (rC G.toRc o') (tV G cl ca) (tV G cl cb) (tV G cl cc))) : PE X (.Compare a [op, op'] [b, c] pos) (tE G cl (.chain o o' ca cb cc)) :=
  pe_imp base fun σ H Q ⟨env, sl, env', E, ev, q⟩ => by
    rw [evalE] at ev
    obtain ⟨s1, x, e1, ev1, d1, ev⟩ := bindV_some ev
    obtain ⟨s2, y, e2, ev2, d2, ev⟩ := bindV_some ev
    refine ⟨env, s1, e1, x, E, ev1, d1, fun v H1 p1 r1 => ?_⟩
    refine ⟨e1, s2, _, y, p1.ok, ev2, d2, fun w H2 p2 r2 => ?_⟩
    split at ev
    · rename_i hcmp
      obtain ⟨s3, z, e3, ev3, d3, ev⟩ := bindV_some ev
      obtain ⟨s4, ev4, h4⟩ := map_some' ev
      cases h4
      refine ⟨x, y, true, r1.keep (p2.fr.kp p1.ok), r2, hcmp, true, rfl, ?_⟩
      refine ⟨e2, s3, _, z, p2.ok, ev3, d3, fun w3 H3 p3 r3 => ?_⟩
      exact ⟨y, z, _, r2.keep (p3.fr.kp p2.ok), r3, ev4, q _ H3 ((p1.trans p2).trans p3) sr_bl⟩
    · rename_i hcmp
      cases ev
      refine ⟨x, y, false, r1.keep (p2.fr.kp p1.ok), r2, hcmp, false, rfl, ?_⟩
      exact q _ H2 (p1.trans p2) sr_bl
    · cases ev
end
end Pi

-- PiOps
set_option maxHeartbeats 1000000
namespace Pi
open PySem PySem.Spec PyProof.Rows L2

theorem Res.int {R : Rc} {H : Hp} {i : Int} {Q : VK} (q : Res R H (.val (.int i)) Q) : Q (.int i) H := q _ H (Ext.refl H) (show Rep R H (.int i) (.int i) from rep_int.mpr rfl)
theorem Res.str {R : Rc} {H : Hp} {i : Str} {Q : VK} (q : Res R H (.val (.str i)) Q) : Q (.str i) H := q _ H (Ext.refl H) (show Rep R H (.str i) (.str i) from rep_str.mpr rfl)
theorem Res.bl {R : Rc} {H : Hp} {i : Bool} {Q : VK} (q : Res R H (.val (.bl i)) Q) : Q (.bl i) H := q _ H (Ext.refl H) (show Rep R H (.bl i) (.bl i) from rep_bl.mpr rfl)
theorem Res.same {R : Rc} {H : Hp} {d : D} {v : V} {Q : VK} (q : Res R H (.val d) Q) (r : Rep R H v d) : Q v H := q _ H (Ext.refl H) (show Rep R H v d from r)
theorem Res.tup {R : Rc} {H : Hp} {ds : List D} {xs : List V} {Q : VK} (q : Res R H (.val (.tup ds)) Q) (r : Reps R H xs ds) {p : Addr} (n : H p = none) : Q (.ref p) (upd H p (.tup xs)) :=
  q _ _ (Ext.new n) (show Rep R _ (.ref p) (.tup ds) from rep_tup.mpr ⟨p, xs, rfl, .inl (.inl upd_same), r.keep (Ext.new n).kp⟩)
theorem Res.lst {R : Rc} {H : Hp} {ds : List D} {xs : List V} {Q : VK} (q : Res R H (.own ds) Q) (r : Reps R H xs ds) {p : Addr} (n : H p = none) : Q (.ref p) (upd H p (.lst xs)) :=
  q _ _ (Ext.new n) ⟨p, xs, rfl, n, upd_same, r.keep (Ext.new n).kp⟩

theorem fz_obj {X : Cx} {pins : List (Addr × Obj)} {σ : Sg} {H : Hp} {s : Shared} {a : Addr} {xs : List V} (I : Inv X pins σ H s) (h : Fz X.K H a xs) :
    xs.length ≤ sizeLine ∧ ∃ (us : List Value) (n : Nat) (sl : Array (Option Value)), Vals xs us ∧ us.length = xs.length ∧ s.heap.get? a = some { cls := .type "list", dict := none, data := .seq us.toArray n, slots := sl } := by
  obtain ⟨its, r, ⟨o, n, e, h1, h2, h3⟩, hz⟩ := I.list h.seq
  obtain ⟨cls, dd, data, sl⟩ := o
  simp only at h1 h2 h3
  subst h1 h2 h3
  exact ⟨hz, its, n, sl, r, r.length.symm, e⟩
theorem list_mulW (l : Addr) (items : Array Value) (n : Nat) (sl : Array (Option Value)) (x : Int) (u : Tok) (hc0 : ¬(!Builtin.List.listFitsIndex x) = true) (hc1 : ¬items.size * x.toNat > (2 ^ 63 - 1) / 8) (hc2 : ¬Builtin.List.listTooLong (items.size * x.toNat) = true) :
    Meets (Builtin.«list.__mul__» ⟨[.ref l, .int x u], []⟩) (fun _ R s => s.heap.get? l = some { cls := .type "list", dict := none, data := .seq items n, slots := sl } ∧ R (.ok (.ret (Value.ref s.heap.objs.size))) { s with heap := s.heap.push { cls := Value.type "list", data := Data.seq (List.foldl (fun x1 x2 => x1 ++ x2) #[] (List.replicate (if items.isEmpty = true then 0 else x.toNat) items)) }, toks := s.toks }) :=
  .of_wp fun prog w A R s h => by
    obtain ⟨hp, g, d, tk, os⟩ := s; obtain ⟨hl, h⟩ := h
    have hsz := PySem.AutoListH.joined_fits hc2
    wp_walk using wpAny_loadPart' hl; refine wpAny_ite_false (decide_eq_false (Nat.not_lt.mpr hsz)) ?_; wp_walk using wpAny_loadPart' hl; exact ⟨_, rfl, h⟩
theorem int_rmulW (a : Int) (t : Tok) (l : Addr) (items : Array Value) (n : Nat) (sl : Array (Option Value)) :
    Meets (Builtin.«int.__rmul__» ⟨[.int a t, .ref l], []⟩) (fun _ R s => s.heap.get? l = some { cls := .type "list", dict := none, data := .seq items n, slots := sl } ∧ R (.ok (.ret Value.notImplemented)) s) :=
  .of_wp fun prog w A R s h => by obtain ⟨hp, g, d, tk, os⟩ := s; obtain ⟨hl, h⟩ := h; wp_walk; exact ⟨_, rfl, h⟩
section
variable {X : Cx} {R : Rc}
theorem cat_fz {a b : Addr} {xs ys : List V} {pins : List (Addr × Obj)} {s : Shared} {σ : Sg} {H : Hp} {Q : VK} (I : Inv X pins σ H s) (ha : Fz X.K H a xs) (hb : Fz X.K H b ys) (hz : xs.length + ys.length ≤ sizeLine)
    (q : ∀ p, H p = none → Q (.ref p) (upd H p (.lst (xs ++ ys)))) : wpAny (model X.prog X.w) X.A (binaryOp .Add (.ref a) (.ref b)) (EP X pins σ Q) X.xe s := by
  obtain ⟨_, us, n, sl, r1, l1, e1⟩ := fz_obj I ha
  obtain ⟨_, ws, m, sl2, r2, l2, e2⟩ := fz_obj I hb
  refine concat_meets ⟨_, e1, rfl⟩ ⟨_, e2, rfl⟩ noFill_list_add seq_list_add PySem.F.slot_list_add PySem.F.entry_list_add (PySem.F.args_list_add_2 _ _) (list_addW a b us.toArray ws.toArray n m none none sl sl2 ?_) ⟨e1, e2, ?_⟩
  · rw [List.size_toArray, List.size_toArray, l1, l2]
    exact hz
  · rw [show us.toArray ++ ws.toArray = (us ++ ws).toArray by simp]
    have I2 := I.lnew (t' := s.toks) (r1.append r2) (by rw [List.length_append]; exact hz)
    exact ⟨V.ref _, _, I2, rfl, q _ I.fresh⟩
theorem rep_fz {a : Addr} {k : Int} {t : Tok} {xs : List V} {pins : List (Addr × Obj)} {s : Shared} {σ : Sg} {H : Hp} {Q : VK} (I : Inv X pins σ H s) (ha : Fz X.K H a xs) (h1 : -(2 ^ 63) ≤ k) (h2 : k < 2 ^ 63) (hz : xs.length * k.toNat ≤ sizeLine)
    (q : ∀ p, H p = none → Q (.ref p) (upd H p (.lst (List.replicate k.toNat xs).flatten))) : wpAny (model X.prog X.w) X.A (binaryOp .Mult (.ref a) (.int k t)) (EP X pins σ Q) X.xe s := by
  obtain ⟨hx, us, n, sl, rr, ll, ee⟩ := fz_obj I ha
  have z1 : us.toArray.size * k.toNat ≤ sizeLine := by
    rw [List.size_toArray, ll]
    exact hz
  have z2 : ¬ us.toArray.size * k.toNat > (2 ^ 63 - 1) / 8 := by
    have w : (sizeLine : Nat) ≤ (2 ^ 63 - 1) / 8 := by decide
    omega
  have z3 : ¬ (!Builtin.List.listFitsIndex k) = true := by
    rw [fitsIndex_both h1 h2]
    decide
  have z4 : ¬ Builtin.List.listTooLong (us.toArray.size * k.toNat) = true := by
    rw [notLongL z1]
    decide
  have z5 : List.foldl (fun x1 x2 => x1 ++ x2) #[] (List.replicate (if us.toArray.isEmpty = true then 0 else k.toNat) us.toArray) = (List.replicate k.toNat us).flatten.toArray := by
    rw [size_rep]
    cases us with
    | nil => simp
    | cons u r' => rw [if_neg (by simp)]
  refine wpAny_binaryOp_repeat_ref (T := "list") (U := "int") (by decide) ⟨_, ee, rfl⟩ (fun s' => typeIs_int s' k t) noFill_list_mul F.fills_int_mul F.slot_int_rmul repeat_list F.slot_int_index.lookup ?_
  refine call_meets F.slot_int_rmul (typeIs_int s k t) F.entry_int_rmul (F.args_int_rmul_2 _ _) (int_rmulW k t a us.toArray n sl) ⟨ee, rfl, ⟨_, ee, rfl⟩, ?_⟩
  refine call_meets F.slot_list_mul ⟨_, ee, rfl⟩ F.entry_list_mul (F.args_list_mul_2 _ _) (list_mulW a us.toArray n sl k t z3 z2 z4) ⟨ee, ?_⟩
  rw [z5]
  have I2 := I.lnew (t' := s.toks) (rr.rep k.toNat) (by rw [PyProof.Rows.lm_len_rep_flat, Nat.mul_comm]; exact hz)
  exact ⟨V.ref _, _, I2, rfl, q _ I.fresh⟩
end
end Pi

namespace Pi
open PySem PySem.Spec PyProof.Rows L2
theorem empty_mul (l : Addr) (n : Nat) (dd : Option Addr) (sl : Array (Option Value)) (x : Int) (u : Tok) (c0 : (decide (x < -(2 ^ 63)) || decide (x ≥ 2 ^ 63)) = false) :
    Meets (Builtin.«tuple.__mul__» ⟨[.ref l, .int x u], []⟩) (fun _ R s => s.heap.get? l = some { cls := .type "tuple", dict := dd, data := .seq #[] n, slots := sl } ∧ R (.ok (.ret (Value.ref l))) s) :=
  .of_wp fun prog w A R s h => by
    obtain ⟨hp, g, d, tk, os⟩ := s
    obtain ⟨hl, h⟩ := h
    have f1 := AutoSeq1.idx_int
    wp_walk using wpAny_loadPart' hl
    repeat (first
      | (refine wpAny_ite_false (decide_eq_false (by rw [c0]; exact Bool.false_ne_true)) ?_; wp_walk using wpAny_loadPart' hl)
      | (refine wpAny_ite_true (decide_eq_true (by simp)) ?_; wp_walk using wpAny_loadPart' hl))
    exact ⟨_, rfl, h⟩
end Pi

namespace Pi
open PySem PySem.Spec PyProof.Rows L2
section
variable {X : Cx} {R : Rc}
theorem rep_nil {l : Addr} {k : Int} {t : Tok} {pins : List (Addr × Obj)} {s : Shared} {σ : Sg} {H : Hp} {Q : VK} (I : Inv X pins σ H s) (hT : SqT X.K H l []) (h1 : 2 ≤ k) (h2 : k ≤ 1000)
    (q : Q (.ref l) H) : wpAny (model X.prog X.w) X.A (binaryOp .Mult (.ref l) (.int k t)) (EP X pins σ Q) X.xe s := by
  obtain ⟨us, rv, ⟨⟨cc, cd, ce, cf⟩, ho, hc, n, hd⟩, _⟩ := I.tuple hT
  cases rv
  simp only at hc hd
  subst hc hd
  have c0 : (decide (k < -(2 ^ 63)) || decide (k ≥ 2 ^ 63)) = false := by
    rw [Bool.or_eq_false_iff]
    exact ⟨decide_eq_false (by omega), decide_eq_false (by omega)⟩
  refine wpAny_binaryOp_repeat_ref (T := "tuple") (U := "int") (by decide) ⟨_, ho, rfl⟩ (fun s' => typeIs_int s' k t) noFill_tuple_mul F.fills_int_mul F.slot_int_rmul repeat_tuple F.slot_int_index.lookup ?_
  refine call_meets F.slot_int_rmul (typeIs_int s k t) F.entry_int_rmul (F.args_int_rmul_2 _ _) (int_rmul_tuple k t l #[] n cd cf) ⟨ho, rfl, ⟨_, ho, rfl⟩, ?_⟩
  refine call_meets F.slot_tuple_mul ⟨_, ho, rfl⟩ F.entry_tuple_mul (F.args_tuple_mul_2 _ _) (empty_mul l n cd cf k t c0) ⟨ho, ?_⟩
  exact ⟨.ref l, H, I, rfl, q⟩
theorem rb_add (hK : X.K = R.K) : OpR X (binaryOp .Add) (rB R .add) := by
  intro pins s σ H v w u1 u2 Q I rv rw h
  obtain ⟨x, y, sl, hx, hy, ev, q⟩ := h
  cases x <;> cases y <;> try (cases (show (none : Option Slot) = some sl from ev))
  · cases ev
    rw [rep_bl.mp hx] at rv
    rw [rep_int.mp hy] at rw
    cases rv
    obtain ⟨t, rfl⟩ := rw
    exact PySem.IntBool.add_bool_int ⟨.int _, H, I.tok _, ⟨_, rfl⟩, q.int⟩
  · cases ev
    rw [rep_int.mp hx] at rv
    rw [rep_bl.mp hy] at rw
    cases rw
    obtain ⟨t, rfl⟩ := rv
    exact PySem.add_int_bool ⟨.int _, H, I.tok _, ⟨_, rfl⟩, q.int⟩
  · cases ev
    exact op_add pins s σ H v w u1 u2 Q I rv rw ⟨_, _, rep_int.mp hx, rep_int.mp hy, q.int⟩
  · simp only [evalBin] at ev
    split at ev
    · rename_i hz
      cases ev
      exact op_add_str pins s σ H v w u1 u2 Q I rv rw ⟨_, _, rep_str.mp hx, rep_str.mp hy, hz, q.str⟩
    · cases ev
  · simp only [evalBin] at ev
    split at ev
    · rename_i hz
      cases ev
      obtain ⟨a, xs, ea, qa, ra⟩ := rep_tup.mp hx
      obtain ⟨b, ys, eb, qb, rb⟩ := rep_tup.mp hy
      rw [← hK] at qa qb
      refine op_catA pins s σ H v w u1 u2 Q I rv rw ⟨a, b, xs, ys, ea, eb, qa, qb, by rw [ra.length, rb.length]; exact hz, fun e => ?_, fun n e => ?_, fun _ _ p np => q.tup (ra.append rb) np⟩
      · subst e
        rw [reps_nil'] at ra
        subst ra
        rw [hK] at qb
        exact q.same (rep_tup.mpr ⟨b, ys, rfl, qb, rb⟩)
      · subst e
        rw [reps_nil'] at rb
        subst rb
        rw [List.append_nil] at q
        rw [hK] at qa
        exact q.same (rep_tup.mpr ⟨a, xs, rfl, qa, ra⟩)
    · cases ev
  · simp only [evalBin] at ev
    split at ev
    · rename_i hz
      cases ev
      obtain ⟨a, xs, ea, qa, ra⟩ := rep_ls.mp hx
      obtain ⟨b, ys, eb, qb, rb⟩ := rep_ls.mp hy
      subst ea eb
      cases rv
      cases rw
      rw [← hK] at qa qb
      exact cat_fz I qa qb (by rw [ra.length, rb.length]; exact hz) fun p np => q.lst (ra.append rb) np
    · cases ev
theorem rb_sub : OpR X (binaryOp .Sub) (rB R .sub) := by
  intro pins s σ H v w u1 u2 Q I rv rw h
  obtain ⟨x, y, sl, hx, hy, ev, q⟩ := h
  cases x <;> cases y <;> try (cases (show (none : Option Slot) = some sl from ev))
  · cases ev
    rw [rep_bl.mp hx] at rv
    rw [rep_int.mp hy] at rw
    cases rv
    obtain ⟨t, rfl⟩ := rw
    exact PySem.IntBool.sub_bool_int ⟨.int _, H, I.tok _, ⟨_, rfl⟩, q.int⟩
  · cases ev
    rw [rep_int.mp hx] at rv
    rw [rep_bl.mp hy] at rw
    cases rw
    obtain ⟨t, rfl⟩ := rv
    exact PySem.IntBool.sub_int_bool ⟨.int _, H, I.tok _, ⟨_, rfl⟩, q.int⟩
  cases ev
  exact op_sub pins s σ H v w u1 u2 Q I rv rw ⟨_, _, rep_int.mp hx, rep_int.mp hy, q.int⟩
theorem rb_mul (hK : X.K = R.K) : OpR X (binaryOp .Mult) (rB R .mul) := by
  intro pins s σ H v w u1 u2 Q I rv rw h
  obtain ⟨x, y, sl, hx, hy, ev, q⟩ := h
  cases x <;> cases y <;> try (cases (show (none : Option Slot) = some sl from ev))
  · simp only [evalBin] at ev
    split at ev
    · rename_i hz
      cases ev
      rcases hz with hz | hz
      · exact op_mul pins s σ H v w u1 u2 Q I rv rw ⟨_, _, rep_int.mp hx, rep_int.mp hy, hz, q.int⟩
      · exact op_mulW pins s σ H v w u1 u2 Q I rv rw ⟨_, _, rep_int.mp hx, rep_int.mp hy, hz, q.int⟩
    · cases ev
  · simp only [evalBin] at ev
    split at ev
    · rename_i ds k hz
      cases ev
      obtain ⟨a, xs, ea, qa, ra⟩ := rep_tup.mp hx
      have ek := rep_int.mp hy
      rw [← hK] at qa
      by_cases hn : xs = []
      · subst hn
        rw [reps_nil'] at ra
        subst ra
        subst ea ek
        cases rv
        obtain ⟨t, rfl⟩ := rw
        refine rep_nil I qa hz.1 hz.2.1 ?_
        have e0 : (List.replicate k.toNat ([] : List D)).flatten = [] := by simp
        rw [e0] at q
        rw [hK] at qa
        exact q.same (rep_tup.mpr ⟨a, [], rfl, qa, by rw [reps_nil]⟩)
      · exact op_repT pins s σ H v w u1 u2 Q I rv rw ⟨a, k, xs, ea, ek, qa, hn, hz.1, hz.2.1, by rw [ra.length]; exact hz.2.2, fun p np => q.tup (ra.repl _) np⟩
    · cases ev
  · simp only [evalBin] at ev
    split at ev
    · rename_i ds k hz
      cases ev
      obtain ⟨a, xs, ea, qa, ra⟩ := rep_ls.mp hx
      have ek := rep_int.mp hy
      subst ea ek
      cases rv
      obtain ⟨t, rfl⟩ := rw
      rw [← hK] at qa
      exact rep_fz I qa hz.1 hz.2.1 (by rw [ra.length]; exact hz.2.2) fun p np => q.lst (ra.repl _) np
    · cases ev
theorem rb_fdiv : OpR X (binaryOp .FloorDiv) (rB R .fdiv) := by
  intro pins s σ H v w u1 u2 Q I rv rw h
  obtain ⟨x, y, sl, hx, hy, ev, q⟩ := h
  cases x <;> cases y <;> try (cases (show (none : Option Slot) = some sl from ev))
  simp only [evalBin] at ev
  split at ev
  · rename_i hz
    cases ev
    exact op_fdivW pins s σ H v w u1 u2 Q I rv rw ⟨_, _, rep_int.mp hx, rep_int.mp hy, hz, q.int⟩
  · split at ev
    · rename_i hz
      cases ev
      exact op_fdivN pins s σ H v w u1 u2 Q I rv rw ⟨_, _, rep_int.mp hx, rep_int.mp hy, hz, q.int⟩
    · cases ev
theorem rb_mod : OpR X (binaryOp .Mod) (rB R .mod) := by
  intro pins s σ H v w u1 u2 Q I rv rw h
  obtain ⟨x, y, sl, hx, hy, ev, q⟩ := h
  cases x <;> cases y <;> try (cases (show (none : Option Slot) = some sl from ev))
  simp only [evalBin] at ev
  split at ev
  · rename_i hz
    cases ev
    exact op_mod pins s σ H v w u1 u2 Q I rv rw ⟨_, _, rep_int.mp hx, rep_int.mp hy, hz, q.int⟩
  · split at ev
    · rename_i hz
      cases ev
      exact op_modN pins s σ H v w u1 u2 Q I rv rw ⟨_, _, rep_int.mp hx, rep_int.mp hy, hz, q.int⟩
    · cases ev
theorem rb_pow : OpR X (binaryOp .Pow) (rB R .pow) := by
  intro pins s σ H v w u1 u2 Q I rv rw h
  obtain ⟨x, y, sl, hx, hy, ev, q⟩ := h
  cases x <;> cases y <;> try (cases (show (none : Option Slot) = some sl from ev))
  simp only [evalBin] at ev
  split at ev
  · rename_i hz
    cases ev
    exact op_pow pins s σ H v w u1 u2 Q I rv rw ⟨_, _, rep_int.mp hx, rep_int.mp hy, hz, q.int⟩
  · cases ev

theorem shp_lay {d : D} (h : d.shp = true) : d.toPy.canLay0 = true := SeqAt.canLay_of_shaped h
theorem rc_eq (hK : X.K = R.K) (hu : X.A.units + 64 < cLine) : OpR X (compareOp .Eq) (rC R .eq) := by
  intro pins s σ H v w u1 u2 Q I rv rw h
  obtain ⟨x, y, b, hx, hy, ev, q⟩ := h
  simp only [evalCmp] at ev
  split at ev
  · rename_i hz
    cases ev
    refine op_eqD hu pins s σ H v w u1 u2 Q I rv rw ⟨x.toPy, y.toPy, ?_, ?_, hz.1, hz.2, ?_⟩
    · rw [hK]; exact hx.dp _ _ (shp_lay hz.1)
    · rw [hK]; exact hy.dp _ _ (shp_lay hz.2)
    · rw [← eqv_py _ _ (shp_lay hz.1) (shp_lay hz.2)]
      exact q
  · cases ev
theorem rc_ne (hK : X.K = R.K) (hu : X.A.units + 64 < cLine) : OpR X (compareOp .NotEq) (rC R .ne) := by
  intro pins s σ H v w u1 u2 Q I rv rw h
  obtain ⟨x, y, b, hx, hy, ev, q⟩ := h
  simp only [evalCmp] at ev
  split at ev
  · rename_i hz
    cases ev
    refine op_neD hu pins s σ H v w u1 u2 Q I rv rw ⟨x.toPy, y.toPy, ?_, ?_, hz.1, hz.2, ?_⟩
    · rw [hK]; exact hx.dp _ _ (shp_lay hz.1)
    · rw [hK]; exact hy.dp _ _ (shp_lay hz.2)
    · rw [← eqv_py _ _ (shp_lay hz.1) (shp_lay hz.2)]
      exact q
  · cases ev
theorem rc_lt (hK : X.K = R.K) (hu : X.A.units < cLine) : OpR X (compareOp .Lt) (rC R .lt) := by
  intro pins s σ H v w u1 u2 Q I rv rw h
  obtain ⟨x, y, b, hx, hy, ev, q⟩ := h
  cases x <;> cases y <;> try (cases (show (none : Option Bool) = some b from ev))
  · cases ev
    exact op_lt pins s σ H v w u1 u2 Q I rv rw ⟨_, _, rep_int.mp hx, rep_int.mp hy, q⟩
  · simp only [evalCmp] at ev
    split at ev
    · rename_i ns ms e1 e2
      cases ev
      obtain ⟨a, xs, ea, qa, ra⟩ := rep_tup.mp hx
      obtain ⟨c, ys, eb, qb, rb⟩ := rep_tup.mp hy
      rw [← hK] at qa qb
      have f1 := allInt_of e1 ra
      have f2 := allInt_of e2 rb
      subst f1 f2
      exact op_ltT hu pins s σ H v w u1 u2 Q I rv rw ⟨a, c, _, _, ea, eb, qa, qb, q⟩
    · cases ev
theorem rc_le : OpR X (compareOp .LtE) (rC R .le) := by
  intro pins s σ H v w u1 u2 Q I rv rw h
  obtain ⟨x, y, b, hx, hy, ev, q⟩ := h
  cases x <;> cases y <;> try (cases (show (none : Option Bool) = some b from ev))
  cases ev
  exact op_le pins s σ H v w u1 u2 Q I rv rw ⟨_, _, rep_int.mp hx, rep_int.mp hy, q⟩
theorem rc_gt : OpR X (compareOp .Gt) (rC R .gt) := by
  intro pins s σ H v w u1 u2 Q I rv rw h
  obtain ⟨x, y, b, hx, hy, ev, q⟩ := h
  cases x <;> cases y <;> try (cases (show (none : Option Bool) = some b from ev))
  cases ev
  exact op_gt pins s σ H v w u1 u2 Q I rv rw ⟨_, _, rep_int.mp hx, rep_int.mp hy, q⟩
theorem rc_ge : OpR X (compareOp .GtE) (rC R .ge) := by
  intro pins s σ H v w u1 u2 Q I rv rw h
  obtain ⟨x, y, b, hx, hy, ev, q⟩ := h
  cases x <;> cases y <;> try (cases (show (none : Option Bool) = some b from ev))
  cases ev
  exact op_ge pins s σ H v w u1 u2 Q I rv rw ⟨_, _, rep_int.mp hx, rep_int.mp hy, q⟩
theorem rep_flat {H : Hp} {v : V} {d : D} (r : Rep R H v d) (f : d.flat = true) : flatV v = true := by
  cases d <;> try cases f
  · rw [rep_non.mp r]; rfl
  · rw [rep_bl.mp r]; rfl
  · rw [rep_int.mp r]; rfl
  · rw [rep_str.mp r]; rfl
theorem reps_flat {H : Hp} : ∀ {ds : List D} {vs : List V}, Reps R H vs ds → ds.all D.flat = true → vs.all flatV = true
  | [], vs, r, _ => by rw [reps_nil] at r; subst r; rfl
  | d :: ds, vs, r, f => by
    rw [reps_cons] at r
    obtain ⟨v, t, rfl, r1, r2⟩ := r
    rw [List.all_cons, Bool.and_eq_true] at f ⊢
    exact ⟨rep_flat r1 f.1, reps_flat r2 f.2⟩
theorem eqv_flat {H : Hp} {v w : V} {d e : D} (r : Rep R H v d) (r' : Rep R H w e) (f : d.flat = true) (f' : e.flat = true) : eqV v w = D.eqv d e := by
  cases d <;> try cases f
  all_goals (cases e <;> try cases f')
  all_goals (simp only [rep_non, rep_bl, rep_int, rep_str] at r r'; subst r r'; simp [eqV, D.eqv, b2i])
theorem isIn_flat {H : Hp} {v : V} {d : D} (r : Rep R H v d) (f : d.flat = true) : ∀ {ds : List D} {vs : List V}, Reps R H vs ds → ds.all D.flat = true → inV v vs = D.isIn d ds
  | [], vs, r, _ => by rw [reps_nil] at r; subst r; rfl
  | e :: ds, vs, rr, ff => by
    rw [reps_cons] at rr
    obtain ⟨w, t, rfl, r1, r2⟩ := rr
    rw [List.all_cons, Bool.and_eq_true] at ff
    have ih := isIn_flat r f r2 ff.2
    unfold inV D.isIn at *
    rw [List.any_cons, List.any_cons, eqv_flat r1 r ff.1 f, ih]
theorem rep_items (hK : X.K = R.K) {H : Hp} {v : V} {d : D} {ds : List D} (r : Rep R H v d) (e : d.items = some ds) : ∃ a xs, v = .ref a ∧ (SqL X.K H a xs ∨ SqT X.K H a xs) ∧ Reps R H xs ds := by
  cases d <;> try cases e
  · obtain ⟨a, xs, e, q, rr⟩ := rep_tup.mp r
    rw [← hK] at q
    exact ⟨a, xs, e, .inr q, rr⟩
  · obtain ⟨a, xs, e, q, rr⟩ := rep_ls.mp r
    rw [← hK] at q
    exact ⟨a, xs, e, .inl q.seq, rr⟩
theorem rc_in (hK : X.K = R.K) : OpR X (compareOp .In) (rC R .inn) := by
  intro pins s σ H v w u1 u2 Q I rv rw h
  obtain ⟨x, y, b, hx, hy, ev, q⟩ := h
  simp only [evalCmp] at ev
  split at ev
  · rename_i ds e
    split at ev
    · rename_i hz
      cases ev
      obtain ⟨a, xs, ea, qa, ra⟩ := rep_items hK hy e
      refine op_in_seq pins s σ H v w u1 u2 Q I rv rw ⟨a, xs, ea, qa, rep_flat hx hz.1, reps_flat ra hz.2, ?_⟩
      rw [isIn_flat hx hz.1 ra hz.2]
      exact q
    · cases ev
  · cases ev
theorem rc_nin (hK : X.K = R.K) : OpR X (compareOp .NotIn) (rC R .nin) := by
  intro pins s σ H v w u1 u2 Q I rv rw h
  obtain ⟨x, y, b, hx, hy, ev, q⟩ := h
  simp only [evalCmp] at ev
  split at ev
  · rename_i ds e
    split at ev
    · rename_i hz
      cases ev
      obtain ⟨a, xs, ea, qa, ra⟩ := rep_items hK hy e
      refine op_notIn_seq pins s σ H v w u1 u2 Q I rv rw ⟨a, xs, ea, qa, rep_flat hx hz.1, reps_flat ra hz.2, ?_⟩
      rw [isIn_flat hx hz.1 ra hz.2]
      exact q
    · cases ev
  · cases ev
theorem rep_tru (hK : X.K = R.K) {H : Hp} {v : V} {d : D} {b : Bool} (r : Rep R H v d) (e : d.truth = some b) : TruV X.K v H b := by
  cases d
  · cases e; rw [rep_non.mp r]; rfl
  · cases e; rw [rep_bl.mp r]; rfl
  · cases e; rw [rep_int.mp r]; rfl
  · simp only [D.truth] at e
    split at e
    · rename_i hz
      cases e
      rw [rep_str.mp r]
      refine ⟨hz, ?_⟩
      rename_i x
      cases h : x.length with
      | zero => rfl
      | succ n =>
        simp [bne]
        omega
    · cases e
  · cases e
    obtain ⟨a, xs, e, q, rr⟩ := rep_tup.mp r
    subst e
    rw [← hK] at q
    refine .inr (.inl ⟨xs, q, ?_⟩)
    rename_i ds
    have := rr.length
    cases ds <;> cases xs <;> simp_all
  · cases e
    obtain ⟨a, xs, e, q, rr⟩ := rep_ls.mp r
    subst e
    rw [← hK] at q
    refine .inl ⟨xs, q.seq, ?_⟩
    rename_i ds
    have := rr.length
    cases ds <;> cases xs <;> simp_all
  · cases e
end
end Pi

-- PiCalls
set_option maxHeartbeats 1000000
namespace Pi
open PySem PySem.Spec PyProof.Rows L2
def rBI (R : Rc) (b : BI) : List V → Hp → VK → Prop := fun vs H Q => ∃ ds s, Reps R H vs ds ∧ evalBI b ds = some s ∧ Res R H s Q
section
variable {X : Cx} {R : Rc}
theorem reps1 {H : Hp} {vs : List V} {d : D} (h : Reps R H vs [d]) : ∃ v, vs = [v] ∧ Rep R H v d := by
  rw [reps_cons] at h
  obtain ⟨v, r, rfl, h1, h2⟩ := h
  rw [reps_nil] at h2
  subst h2
  exact ⟨v, rfl, h1⟩
theorem reps2 {H : Hp} {vs : List V} {d e : D} (h : Reps R H vs [d, e]) : ∃ v w, vs = [v, w] ∧ Rep R H v d ∧ Rep R H w e := by
  rw [reps_cons] at h
  obtain ⟨v, r, rfl, h1, h2⟩ := h
  obtain ⟨w, rfl, h3⟩ := reps1 h2
  exact ⟨v, w, rfl, h1, h3⟩
theorem bi_len (hK : X.K = R.K) : CallR X (.builtin "len") (rBI R .len) := by
  intro pins s σ H xs us Q I rv h
  obtain ⟨ds, sl, r, ev, q⟩ := h
  replace ev : biLen ds = some sl := ev
  unfold biLen at ev
  split at ev <;> try cases ev
  · obtain ⟨v, rfl, r1⟩ := reps1 r
    obtain ⟨a, ys, e, hq, rr⟩ := rep_tup.mp r1
    rw [← hK] at hq
    refine call_len_seq pins s σ H _ us Q I rv ⟨a, ys, by rw [e], .inr hq, ?_⟩
    rw [rr.length]
    exact q.int
  · obtain ⟨v, rfl, r1⟩ := reps1 r
    obtain ⟨a, ys, e, hq, rr⟩ := rep_ls.mp r1
    refine call_len_seq pins s σ H _ us Q I rv ⟨a, ys, by rw [e], .inl (hq.seqX hK), ?_⟩
    rw [rr.length]
    exact q.int
  · rename_i x
    split at ev <;> cases ev
    obtain ⟨v, rfl, r1⟩ := reps1 r
    refine call_len_str pins s σ H _ us Q I rv ⟨x, by rw [rep_str.mp r1], by assumption, q.int⟩
theorem bi_abs : CallR X (.builtin "abs") (rBI R .abs) := by
  intro pins s σ H xs us Q I rv h
  obtain ⟨ds, sl, r, ev, q⟩ := h
  replace ev : biAbs ds = some sl := ev
  unfold biAbs at ev
  split at ev <;> try cases ev
  obtain ⟨v, rfl, r1⟩ := reps1 r
  exact call_abs pins s σ H _ us Q I rv ⟨_, by rw [rep_int.mp r1], q.int⟩
theorem foldMax_ge : ∀ (xs : List Int) (x : Int), x ≤ xs.foldl (fun m y => if m < y then y else m) x ∧ (∀ y ∈ xs, y ≤ xs.foldl (fun m y => if m < y then y else m) x) ∧ (xs.foldl (fun m y => if m < y then y else m) x = x ∨ xs.foldl (fun m y => if m < y then y else m) x ∈ xs)
  | [], x => ⟨Int.le_refl _, by simp, .inl rfl⟩
  | y :: ys, x => by
    rw [List.foldl_cons]
    obtain ⟨h1, h2, h3⟩ := foldMax_ge ys (if x < y then y else x)
    have h4 : x ≤ (if x < y then y else x) ∧ y ≤ (if x < y then y else x) := by split <;> omega
    refine ⟨Int.le_trans h4.1 h1, fun z hz => ?_, ?_⟩
    · rcases List.mem_cons.mp hz with rfl | hz
      · exact Int.le_trans h4.2 h1
      · exact h2 z hz
    · rcases h3 with h3 | h3
      · rw [h3]
        split
        · exact .inr List.mem_cons_self
        · exact .inl rfl
      · exact .inr (List.mem_cons_of_mem _ h3)
theorem foldMin_le : ∀ (xs : List Int) (x : Int), xs.foldl (fun m y => if y < m then y else m) x ≤ x ∧ (∀ y ∈ xs, xs.foldl (fun m y => if y < m then y else m) x ≤ y) ∧ (xs.foldl (fun m y => if y < m then y else m) x = x ∨ xs.foldl (fun m y => if y < m then y else m) x ∈ xs)
  | [], x => ⟨Int.le_refl _, by simp, .inl rfl⟩
  | y :: ys, x => by
    rw [List.foldl_cons]
    obtain ⟨h1, h2, h3⟩ := foldMin_le ys (if y < x then y else x)
    have h4 : (if y < x then y else x) ≤ x ∧ (if y < x then y else x) ≤ y := by split <;> omega
    refine ⟨Int.le_trans h1 h4.1, fun z hz => ?_, ?_⟩
    · rcases List.mem_cons.mp hz with rfl | hz
      · exact Int.le_trans h1 h4.2
      · exact h2 z hz
    · rcases h3 with h3 | h3
      · rw [h3]
        split
        · exact .inr List.mem_cons_self
        · exact .inl rfl
      · exact .inr (List.mem_cons_of_mem _ h3)
theorem maxOf_is {ns : List Int} {m k : Int} (h : maxOf ns = some m) (hk : k ∈ ns) (ge : ∀ y ∈ ns, y ≤ k) : k = m := by
  cases ns with
  | nil => cases h
  | cons x xs =>
    cases h
    obtain ⟨h1, h2, h3⟩ := foldMax_ge xs x
    have a : (xs.foldl (fun m y => if m < y then y else m) x) ≤ k := by
      rcases h3 with e | e
      · rw [e]; exact ge x List.mem_cons_self
      · exact ge _ (List.mem_cons_of_mem _ e)
    have b : k ≤ (xs.foldl (fun m y => if m < y then y else m) x) := by
      rcases List.mem_cons.mp hk with e | e
      · rw [e]; exact h1
      · exact h2 k e
    omega
theorem minOf_is {ns : List Int} {m k : Int} (h : minOf ns = some m) (hk : k ∈ ns) (ge : ∀ y ∈ ns, k ≤ y) : k = m := by
  cases ns with
  | nil => cases h
  | cons x xs =>
    cases h
    obtain ⟨h1, h2, h3⟩ := foldMin_le xs x
    have a : k ≤ (xs.foldl (fun m y => if y < m then y else m) x) := by
      rcases h3 with e | e
      · rw [e]; exact ge x List.mem_cons_self
      · exact ge _ (List.mem_cons_of_mem _ e)
    have b : (xs.foldl (fun m y => if y < m then y else m) x) ≤ k := by
      rcases List.mem_cons.mp hk with e | e
      · rw [e]; exact h1
      · exact h2 k e
    omega
theorem bi_min (hK : X.K = R.K) (hc : X.calm = true) : CallR X (.builtin "min") (rBI R .min) := by
  intro pins s σ H xs us Q I rv h
  obtain ⟨ds, sl, r, ev, q⟩ := h
  replace ev : biMin ds = some sl := ev
  unfold biMin at ev
  split at ev <;> try cases ev
  · obtain ⟨v, w, rfl, r1, r2⟩ := reps2 r
    exact call_min2 hc pins s σ H _ us Q I rv ⟨_, _, by rw [rep_int.mp r1, rep_int.mp r2], q.int⟩
  · obtain ⟨v, rfl, r1⟩ := reps1 r
    obtain ⟨a, ys, e, hq, rr⟩ := rep_ls.mp r1
    split at ev <;> try cases ev
    rename_i ns hn
    obtain ⟨m, hm, e2⟩ := map_some' ev
    cases e2
    have f := allInt_of hn rr
    subst f
    refine cr_min hc pins s σ H _ us Q I rv ⟨a, ns, by rw [e], (hq.seqX hK), ?_, fun k hk ge => ?_⟩
    · cases ns with
      | nil => cases hm
      | cons _ _ => simp
    · rw [minOf_is hm hk ge]
      exact q.int
theorem bi_max (hK : X.K = R.K) (hc : X.calm = true) : CallR X (.builtin "max") (rBI R .max) := by
  intro pins s σ H xs us Q I rv h
  obtain ⟨ds, sl, r, ev, q⟩ := h
  replace ev : biMax ds = some sl := ev
  unfold biMax at ev
  split at ev <;> try cases ev
  · obtain ⟨v, w, rfl, r1, r2⟩ := reps2 r
    exact call_max2 hc pins s σ H _ us Q I rv ⟨_, _, by rw [rep_int.mp r1, rep_int.mp r2], q.int⟩
  · obtain ⟨v, rfl, r1⟩ := reps1 r
    obtain ⟨a, ys, e, hq, rr⟩ := rep_ls.mp r1
    split at ev <;> try cases ev
    rename_i ns hn
    obtain ⟨m, hm, e2⟩ := map_some' ev
    cases e2
    have f := allInt_of hn rr
    subst f
    refine cr_max hc pins s σ H _ us Q I rv ⟨a, ns, by rw [e], (hq.seqX hK), ?_, fun k hk ge => ?_⟩
    · cases ns with
      | nil => cases hm
      | cons _ _ => simp
    · rw [maxOf_is hm hk ge]
      exact q.int
theorem bi_int : CallR X (.type "int") (rBI R .int) := by
  intro pins s σ H xs us Q I rv h
  obtain ⟨ds, sl, r, ev, q⟩ := h
  replace ev : biInt ds = some sl := ev
  unfold biInt at ev
  split at ev <;> try cases ev
  · obtain ⟨v, rfl, r1⟩ := reps1 r
    exact call_int1 pins s σ H _ us Q I rv (.inl ⟨_, by rw [rep_int.mp r1], q.int⟩)
  · obtain ⟨v, rfl, r1⟩ := reps1 r
    exact call_int1 pins s σ H _ us Q I rv (.inr ⟨_, by rw [rep_bl.mp r1], q.int⟩)
theorem bi_sum (hK : X.K = R.K) (hc : X.calm = true) : CallR X (.builtin "sum") (rBI R .sum) := by
  intro pins s σ H xs us Q I rv h
  obtain ⟨ds, sl, r, ev, q⟩ := h
  replace ev : biSum ds = some sl := ev
  unfold biSum at ev
  split at ev <;> try cases ev
  obtain ⟨v, rfl, r1⟩ := reps1 r
  obtain ⟨a, ys, e, hq, rr⟩ := rep_ls.mp r1
  obtain ⟨ns, hn, e2⟩ := map_some' ev
  cases e2
  have f := allInt_of hn rr
  subst f
  exact cr_sum hc pins s σ H _ us Q I rv ⟨a, ns, by rw [e], (hq.seqX hK), q.int⟩
theorem bi_all (hK : X.K = R.K) (hc : X.calm = true) : CallR X (.builtin "all") (rBI R .all) := by
  intro pins s σ H xs us Q I rv h
  obtain ⟨ds, sl, r, ev, q⟩ := h
  replace ev : biAll ds = some sl := ev
  unfold biAll at ev
  split at ev <;> try cases ev
  obtain ⟨v, rfl, r1⟩ := reps1 r
  obtain ⟨a, ys, e, hq, rr⟩ := rep_ls.mp r1
  obtain ⟨ns, hn, e2⟩ := map_some' ev
  cases e2
  have f := allBl_of hn rr
  subst f
  exact cr_all hc pins s σ H _ us Q I rv ⟨a, ns, by rw [e], (hq.seqX hK), q.bl⟩
theorem bi_any (hK : X.K = R.K) (hc : X.calm = true) : CallR X (.builtin "any") (rBI R .any) := by
  intro pins s σ H xs us Q I rv h
  obtain ⟨ds, sl, r, ev, q⟩ := h
  replace ev : biAny ds = some sl := ev
  unfold biAny at ev
  split at ev <;> try cases ev
  obtain ⟨v, rfl, r1⟩ := reps1 r
  obtain ⟨a, ys, e, hq, rr⟩ := rep_ls.mp r1
  obtain ⟨ns, hn, e2⟩ := map_some' ev
  cases e2
  have f := allBl_of hn rr
  subst f
  exact cr_any hc pins s σ H _ us Q I rv ⟨a, ns, by rw [e], (hq.seqX hK), q.bl⟩
theorem bi_tuple (hK : X.K = R.K) : CallR X (.type "tuple") (rBI R .tuple) := by
  intro pins s σ H xs us Q I rv h
  obtain ⟨ds, sl, r, ev, q⟩ := h
  replace ev : biTuple ds = some sl := ev
  unfold biTuple at ev
  split at ev <;> try cases ev
  · obtain ⟨v, rfl, r1⟩ := reps1 r
    obtain ⟨a, ys, e, hq, rr⟩ := rep_tup.mp r1
    rw [← hK] at hq
    subst e
    exact call_tuple_of pins s σ H _ us Q I rv ⟨a, ys, rfl, .inr ⟨hq, q.same r1⟩⟩
  · obtain ⟨v, rfl, r1⟩ := reps1 r
    obtain ⟨a, ys, e, hq, rr⟩ := rep_ls.mp r1
    subst e
    exact call_tuple_of pins s σ H _ us Q I rv ⟨a, ys, rfl, .inl ⟨(hq.seqX hK), fun l hl => q.tup rr hl⟩⟩
theorem bi_list (hK : X.K = R.K) : CallR X (.type "list") (rBI R .list) := by
  intro pins s σ H xs us Q I rv h
  obtain ⟨ds, sl, r, ev, q⟩ := h
  replace ev : biList ds = some sl := ev
  unfold biList at ev
  split at ev <;> try cases ev
  · obtain ⟨v, rfl, r1⟩ := reps1 r
    obtain ⟨a, ys, e, hq, rr⟩ := rep_tup.mp r1
    rw [← hK] at hq
    subst e
    exact call_list_of pins s σ H _ us Q I rv ⟨a, ys, rfl, .inr hq, fun l hl => q.lst rr hl⟩
  · obtain ⟨v, rfl, r1⟩ := reps1 r
    obtain ⟨a, ys, e, hq, rr⟩ := rep_ls.mp r1
    subst e
    exact call_list_of pins s σ H _ us Q I rv ⟨a, ys, rfl, .inl (hq.seqX hK), fun l hl => q.lst rr hl⟩
theorem bi_repr : CallR X (.builtin "repr") (rBI R .repr) := by
  intro pins s σ H xs us Q I rv h
  obtain ⟨ds, sl, r, ev, q⟩ := h
  replace ev : biRepr ds = some sl := ev
  unfold biRepr at ev
  split at ev <;> try cases ev
  · obtain ⟨v, rfl, r1⟩ := reps1 r
    rw [rep_bl.mp r1] at rv
    obtain ⟨u, rfl, ru⟩ := vals1 rv
    cases ru
    exact PySem.P.repr_of_bool ⟨.str _, H, I.tok _, ⟨_, rfl⟩, q.str⟩
  · obtain ⟨v, rfl, r1⟩ := reps1 r
    rw [rep_non.mp r1] at rv
    obtain ⟨u, rfl, ru⟩ := vals1 rv
    cases ru
    exact PySem.P.repr_of_none ⟨.str _, H, I.tok _, ⟨_, rfl⟩, q.str⟩
  · obtain ⟨v, rfl, r1⟩ := reps1 r
    split at ev <;> cases ev
    rw [rep_int.mp r1] at rv
    obtain ⟨u, rfl, ru⟩ := vals1 rv
    obtain ⟨t, rfl⟩ := ru
    exact PySem.P.repr_of_int (by assumption) ⟨.str _, H, I.tok _, ⟨_, rfl⟩, q.str⟩

def tyName : Ty → String
  | .int => "int" | .bool => "bool" | .str => "str" | .tuple => "tuple" | .list => "list"
theorem kits : kitB "int" "int" = some true ∧ kitB "bool" "int" = some true ∧ kitB "str" "int" = some false ∧ kitB "NoneType" "int" = some false ∧ kitB "tuple" "int" = some false ∧ kitB "list" "int" = some false ∧
    kitB "int" "bool" = some false ∧ kitB "bool" "bool" = some true ∧ kitB "str" "bool" = some false ∧ kitB "NoneType" "bool" = some false ∧ kitB "tuple" "bool" = some false ∧ kitB "list" "bool" = some false ∧
    kitB "int" "str" = some false ∧ kitB "bool" "str" = some false ∧ kitB "str" "str" = some true ∧ kitB "NoneType" "str" = some false ∧ kitB "tuple" "str" = some false ∧ kitB "list" "str" = some false ∧
    kitB "int" "tuple" = some false ∧ kitB "bool" "tuple" = some false ∧ kitB "str" "tuple" = some false ∧ kitB "NoneType" "tuple" = some false ∧ kitB "tuple" "tuple" = some true ∧ kitB "list" "tuple" = some false ∧
    kitB "int" "list" = some false ∧ kitB "bool" "list" = some false ∧ kitB "str" "list" = some false ∧ kitB "NoneType" "list" = some false ∧ kitB "tuple" "list" = some false ∧ kitB "list" "list" = some true := by decide +kernel
def tyD : D → String
  | .non => "NoneType" | .bl _ => "bool" | .int _ => "int" | .str _ => "str" | .tup _ => "tuple" | .ls _ => "list" | .fn _ => "function"
theorem rep_ty (hK : X.K = R.K) {H : Hp} {v : V} {d : D} (r : Rep R H v d) (n : ∀ j, d ≠ .fn j) : TyX X.K H v (.type (tyD d)) := by
  cases d with
  | non => rw [rep_non.mp r]; exact .base .non
  | bl b => rw [rep_bl.mp r]; exact .base (.bl _)
  | int i => rw [rep_int.mp r]; exact .base (.int _)
  | str x => rw [rep_str.mp r]; exact .base (.str _)
  | tup ds =>
    obtain ⟨a, xs, rfl, q, _⟩ := rep_tup.mp r
    rcases q with (q | ⟨o, q⟩) | ⟨o, its, n, q, hc, _⟩
    · exact .base (.tup q)
    · exact .fTuple q
    · rw [← hK] at q
      exact .kTuple q hc
  | ls ds =>
    obtain ⟨a, xs, rfl, ⟨o, q⟩ | ⟨o, its, n, q, hc, _⟩, _⟩ := rep_ls.mp r
    · exact .base (.frz q)
    · rw [← hK] at q
      exact .kList q hc
  | fn j => exact absurd rfl (n j)
theorem isTy_kit {t : Ty} {d : D} {b : Bool} (h : isTy t d = some b) : kitB (tyD d) (tyName t) = some b := by
  obtain ⟨a1, a2, a3, a4, a5, a6, b1, b2, b3, b4, b5, b6, c1, c2, c3, c4, c5, c6, d1, d2, d3, d4, d5, d6, e1, e2, e3, e4, e5, e6⟩ := kits
  cases t <;> cases d <;> cases h <;> assumption
theorem bi_isi (hK : X.K = R.K) {v : V} {d : D} {t : Ty} {b : Bool} {u : Value} {pins : List (Addr × Obj)} {s : Shared} {σ : Sg} {H : Hp} {Q : VK} (I : Inv X pins σ H s) (rv : RelV v u) (r : Rep R H v d) (h : isTy t d = some b) (q : Q (.bl b) H) :
    wpAny (model X.prog X.w) X.A (PySem.call (.builtin "isinstance") [u, .type (tyName t)]) (EP X pins σ Q) X.xe s := by
  refine call_isi pins s σ H [v, .ty (tyName t)] [u, .type (tyName t)] Q I (.cons rv (.cons rfl .nil)) ⟨v, .ty (tyName t), .type (tyD d), .type (tyName t), b, rfl, .ty _, rep_ty hK r (fun j e => ?_), kit_ty (isTy_kit h), q⟩
  subst e
  cases t <;> cases h
end
end Pi

-- PiExpr2
set_option maxHeartbeats 1000000
namespace Pi
open PySem PySem.Spec PyProof.Rows L2

def isStar : Expr → Bool
  | .Starred .. => true
  | _ => false
theorem star_one {e : Expr} {es : List Expr} {env : PySem.Env} (h : isStar e = false) : starEach (e :: es) env = (false, eval e env) :: starEach es env := by
  cases e <;> first | rfl | cases h
theorem star_any {pos : Pos} {env : PySem.Env} : ∀ {es : List Expr}, es.all (fun e => !isStar e) = true → (backTo pos (starEach es env)).any (·.1) = false
  | [], _ => rfl
  | e :: es, h => by
    rw [List.all_cons, Bool.and_eq_true] at h
    have h1 : isStar e = false := by simpa using h.1
    rw [star_one h1]
    have ih := star_any (pos := pos) (env := env) h.2
    show (backTo pos ((false, eval e env) :: starEach es env)).any (·.1) = false
    simpa [backTo] using ih

section
variable {X : Cx} {G : Gh} {cl : Oracle}
def tDs (G : Gh) (cl : Oracle) (c : CEs) : TA := fun σ H Q => ∃ env ds env', EnvOk G env σ H ∧ evalEs cl c env = some (ds, env') ∧ ∀ vs H', Post G env σ H env' H' → Reps G.toRc H' vs ds → Q vs H'
theorem c_nil : PA X [] (tDs G cl .nil) := pa_imp pa_nil fun σ H Q ⟨env, ds, env', E, ev, q⟩ => by
  rw [evalEs] at ev
  cases ev
  exact q [] H (Post.refl E) (by rw [reps_nil])
theorem c_cons {e : Expr} {es : List Expr} {c : CE} {cs : CEs} (hs : isStar e = false) (he : PE X e (tE G cl c)) (hr : PA X es (tDs G cl cs)) : PA X (e :: es) (tDs G cl (.cons c cs)) :=
  pa_imp (pa_cons (pe_val he) hr (star_one hs)) fun σ H Q ⟨env, ds, env', E, ev, q⟩ => by
    rw [evalEs] at ev
    obtain ⟨s1, x, e1, ev1, d1, ev⟩ := bindV_some ev
    obtain ⟨xs, e2, ev2, ev⟩ := bindDs_some' ev
    cases ev
    refine ⟨env, s1, e1, x, E, ev1, d1, fun v H1 p1 r1 => ?_⟩
    refine ⟨e1, xs, _, p1.ok, ev2, fun vs H2 p2 r2 => ?_⟩
    exact q _ H2 (p1.trans p2) (reps_cons.mpr ⟨v, vs, rfl, r1.keep (p2.fr.kp p1.ok), r2⟩)
theorem res_of {env env' : En} {σ : Sg} {H H1 : Hp} {s : Slot} {Q : VK} (E : EnvOk G env σ H) (p : Post G env σ H env' H1) (q : ∀ v H', Post G env σ H env' H' → SlotRep G H H' s v → Q v H') : Res G.toRc H1 s Q := Res.of E p q
theorem c_tup {es : List Expr} {cs : CEs} {k : Nat} {pos : Pos} (h : PA X es (tDs G cl cs)) : PE X (.Tuple es k pos) (tE G cl (.tup cs)) :=
  pe_imp (pe_tup h) fun σ H Q ⟨env, sl, env', E, ev, q⟩ => by
    rw [evalE] at ev
    obtain ⟨ds, e1, ev1, ev⟩ := bindDs_some' ev
    split at ev <;> cases ev
    rename_i hz
    refine ⟨env, ds, _, E, ev1, fun vs H1 p1 r1 => ⟨by rw [r1.length]; exact hz, fun p np => (Res.of E p1 q).tup r1 np⟩⟩
theorem c_lst {es : List Expr} {cs : CEs} {pos : Pos} (h : PA X es (tDs G cl cs)) : PE X (.List es pos) (tE G cl (.lst cs)) :=
  pe_imp (pe_lst h) fun σ H Q ⟨env, sl, env', E, ev, q⟩ => by
    rw [evalE] at ev
    obtain ⟨ds, e1, ev1, ev⟩ := bindDs_some' ev
    split at ev <;> cases ev
    rename_i hz
    refine ⟨env, ds, _, E, ev1, fun vs H1 p1 r1 => ⟨by rw [r1.length]; exact hz, fun p np => (Res.of E p1 q).lst r1 np⟩⟩
theorem c_bi {x : Str} {p pos : Pos} {e : Expr} {es : List Expr} {cs : CEs} {b : BI} (h : ∀ {t : TA}, PA X (e :: es) t → PE X (.Call (.Name x p) (e :: es) [] pos) (tCB (rBI G.toRc b) t)) (ha : PA X (e :: es) (tDs G cl cs)) :
    PE X (.Call (.Name x p) (e :: es) [] pos) (tE G cl (.bi b cs)) :=
  pe_imp (h ha) fun σ H Q ⟨env, sl, env', E, ev, q⟩ => by
    rw [evalE] at ev
    obtain ⟨ds, e1, ev1, ev⟩ := bindDs_some' ev
    obtain ⟨s, ev2, e2⟩ := map_some' ev
    cases e2
    exact ⟨env, ds, _, E, ev1, fun vs H1 p1 r1 => ⟨ds, _, r1, ev2, Res.of E p1 q⟩⟩

theorem rep_nonD {R : Rc} {H : Hp} {v : V} {d : D} (r : Rep R H v d) : decide (v = .non) = d.isNon := by
  cases d with
  | non => rw [rep_non.mp r]; rfl
  | bl b => rw [rep_bl.mp r]; rfl
  | int b => rw [rep_int.mp r]; rfl
  | str b => rw [rep_str.mp r]; rfl
  | tup ds => obtain ⟨a, xs, rfl, _⟩ := rep_tup.mp r; rfl
  | ls ds => obtain ⟨a, xs, rfl, _⟩ := rep_ls.mp r; rfl
  | fn j => rw [rep_fn.mp r]; rfl
theorem c_isN {a : Expr} {ca : CE} {j : Nat} {p pos : Pos} (ha : PE X a (tE G cl ca)) : PE X (.Compare a [.Is] [.Constant .none j p] pos) (tE G cl (.isN false ca)) :=
  pe_imp (pe_cmp (pc_isN (pe_val ha)) rfl) fun σ H Q ⟨env, sl, env', E, ev, q⟩ => by
    rw [evalE] at ev
    obtain ⟨s1, x, e1, ev1, d1, ev⟩ := bindV_some ev
    cases ev
    refine ⟨env, s1, _, x, E, ev1, d1, fun v H1 p1 r1 => ?_⟩
    show Q (.bl (decide (v = .non))) H1
    rw [rep_nonD r1]
    exact q _ H1 p1 sr_bl
theorem c_notN {a : Expr} {ca : CE} {j : Nat} {p pos : Pos} (ha : PE X a (tE G cl ca)) : PE X (.Compare a [.IsNot] [.Constant .none j p] pos) (tE G cl (.isN true ca)) :=
  pe_imp (pe_cmp (pc_notN (pe_val ha)) rfl) fun σ H Q ⟨env, sl, env', E, ev, q⟩ => by
    rw [evalE] at ev
    obtain ⟨s1, x, e1, ev1, d1, ev⟩ := bindV_some ev
    cases ev
    refine ⟨env, s1, _, x, E, ev1, d1, fun v H1 p1 r1 => ?_⟩
    show Q (.bl (!decide (v = .non))) H1
    rw [rep_nonD r1]
    exact q _ H1 p1 sr_bl
theorem c_and {a b : Expr} {rest : List Expr} {ca cb : CE} {pos : Pos} (ha : PE X a (tE G cl ca)) (hb : PE X (.BoolOp .And (b :: rest) pos) (tE G cl cb)) : PE X (.BoolOp .And (a :: b :: rest) pos) (tE G cl (.and ca cb)) :=
  pe_imp (pe_and (pe_val ha) (pe_val hb)) fun σ H Q ⟨env, sl, env', E, ev, q⟩ => by
    rw [evalE] at ev
    obtain ⟨s1, x, e1, ev1, d1, ev⟩ := bindV_some ev
    split at ev
    · obtain ⟨s2, y, e2, ev2, d2, ev⟩ := bindV_some ev
      cases ev
      refine ⟨env, s1, e1, _, E, ev1, d1, fun v H1 p1 r1 => ⟨true, rep_bl.mp r1, ?_⟩⟩
      refine ⟨e1, s2, _, y, p1.ok, ev2, d2, fun w H2 p2 r2 => ?_⟩
      exact q _ H2 (p1.trans p2) (sr_val r2)
    · cases ev
      refine ⟨env, s1, _, _, E, ev1, d1, fun v H1 p1 r1 => ⟨false, rep_bl.mp r1, ?_⟩⟩
      exact q _ H1 p1 sr_bl
    · cases ev
theorem c_or {a b : Expr} {rest : List Expr} {ca cb : CE} {pos : Pos} (ha : PE X a (tE G cl ca)) (hb : PE X (.BoolOp .Or (b :: rest) pos) (tE G cl cb)) : PE X (.BoolOp .Or (a :: b :: rest) pos) (tE G cl (.or ca cb)) :=
  pe_imp (pe_or (pe_val ha) (pe_val hb)) fun σ H Q ⟨env, sl, env', E, ev, q⟩ => by
    rw [evalE] at ev
    obtain ⟨s1, x, e1, ev1, d1, ev⟩ := bindV_some ev
    split at ev
    · obtain ⟨s2, y, e2, ev2, d2, ev⟩ := bindV_some ev
      cases ev
      refine ⟨env, s1, e1, _, E, ev1, d1, fun v H1 p1 r1 => ⟨false, rep_bl.mp r1, ?_⟩⟩
      refine ⟨e1, s2, _, y, p1.ok, ev2, d2, fun w H2 p2 r2 => ?_⟩
      exact q _ H2 (p1.trans p2) (sr_val r2)
    · cases ev
      refine ⟨env, s1, _, _, E, ev1, d1, fun v H1 p1 r1 => ⟨true, rep_bl.mp r1, ?_⟩⟩
      exact q _ H1 p1 sr_bl
    · cases ev
theorem c_one {a : Expr} {ca : CE} {op : PySem.BoolOp} {pos : Pos} (ha : PE X a (tE G cl ca)) : PE X (.BoolOp op [a] pos) (tE G cl ca) := pe_one ha
theorem c_not (hK : X.K = G.toRc.K) {a : Expr} {ca : CE} {pos : Pos} (ha : PE X a (tE G cl ca)) : PE X (.UnaryOp .Not a pos) (tE G cl (.not ca)) :=
  pe_imp (pe_notT (pe_val ha)) fun σ H Q ⟨env, sl, env', E, ev, q⟩ => by
    rw [evalE] at ev
    obtain ⟨s1, x, e1, ev1, d1, ev⟩ := bindV_some ev
    obtain ⟨b, ev2, e2⟩ := map_some' ev
    cases e2
    exact ⟨env, s1, _, x, E, ev1, d1, fun v H1 p1 r1 => ⟨b, rep_tru hK r1 ev2, q _ H1 p1 sr_bl⟩⟩
theorem c_ife {c a b : Expr} {cc ca cb : CE} {pos : Pos} (hc : PT X c (tT G cl cc)) (ha : PE X a (tE G cl ca)) (hb : PE X b (tE G cl cb)) : PE X (.IfExp c a b pos) (tE G cl (.ife cc ca cb)) :=
  pe_imp (pe_ifExp hc ha hb) fun σ H Q ⟨env, sl, env', E, ev, q⟩ => by
    rw [evalE] at ev
    obtain ⟨x, e1, ev1, ev⟩ := bindB_some' ev
    refine ⟨env, x, e1, E, ev1, fun H1 p1 => ?_⟩
    have up : ∀ v H', Post G e1 σ H1 env' H' → SlotRep G H1 H' sl v → Q v H' := fun v H' p r => q v H' (p1.trans p) (by
      cases sl with
      | own ds =>
        obtain ⟨a, xs, e, hn, h2, rs⟩ := r
        exact ⟨a, xs, e, p1.fr.trk a hn, h2, rs⟩
      | val d => exact r
      | nil => exact r
      | io _ => exact r)
    cases x with
    | true => exact ⟨e1, sl, env', p1.ok, ev, up⟩
    | false => exact ⟨e1, sl, env', p1.ok, ev, up⟩

theorem t_and {a b : Expr} {rest : List Expr} {ca cb : CE} {pos : Pos} (ha : PT X a (tT G cl ca)) (hb : PW X (.BoolOp .And (b :: rest) pos) (tT G cl cb)) : PW X (.BoolOp .And (a :: b :: rest) pos) (tT G cl (.and ca cb)) :=
  ⟨fun whole pins s σ H Q I ⟨env, b, env', E, ev, q⟩ => (pw_and ha hb).run whole pins s σ H Q I (by
    rw [evalT] at ev
    obtain ⟨x, e1, ev1, ev⟩ := bindB_some' ev
    refine ⟨env, x, e1, E, ev1, fun H1 p1 => ?_⟩
    cases x with
    | true => exact ⟨e1, b, env', p1.ok, ev, fun H2 p2 => q H2 (p1.trans p2)⟩
    | false =>
      cases ev
      exact q H1 p1)⟩
theorem t_or {a b : Expr} {rest : List Expr} {ca cb : CE} {pos : Pos} (ha : PT X a (tT G cl ca)) (hb : PW X (.BoolOp .Or (b :: rest) pos) (tT G cl cb)) : PW X (.BoolOp .Or (a :: b :: rest) pos) (tT G cl (.or ca cb)) :=
  ⟨fun whole pins s σ H Q I ⟨env, b, env', E, ev, q⟩ => (pw_or ha hb).run whole pins s σ H Q I (by
    rw [evalT] at ev
    obtain ⟨x, e1, ev1, ev⟩ := bindB_some' ev
    refine ⟨env, x, e1, E, ev1, fun H1 p1 => ?_⟩
    cases x with
    | false => exact ⟨e1, b, env', p1.ok, ev, fun H2 p2 => q H2 (p1.trans p2)⟩
    | true =>
      cases ev
      exact q H1 p1)⟩
theorem t_not {a : Expr} {ca : CE} {pos : Pos} (ha : PT X a (tT G cl ca)) : PT X (.UnaryOp .Not a pos) (tT G cl (.not ca)) :=
  pt_imp (pt_not ha) fun σ H Q ⟨env, b, env', E, ev, q⟩ => by
    rw [evalT] at ev
    obtain ⟨x, e1, ev1, ev⟩ := bindB_some' ev
    cases ev
    exact ⟨env, x, _, E, ev1, fun H1 p1 => q H1 p1⟩
def byVal : CE → Bool
  | .bin .. | .neg .. | .cmp .. | .chain .. | .isN .. | .ix .. | .ixv .. | .call .. | .bi .. | .isi .. => true
  | _ => false
theorem evalT_val {c : CE} {env : En} (h : byVal c = true) : evalT cl c env = bindV (evalE cl c env) fun d e1 => d.truth.map fun b => (b, e1) := by
  cases c <;> first | exact absurd h Bool.false_ne_true | rw [evalT]
theorem t_val (hK : X.K = G.toRc.K) {e : Expr} {c : CE} (hb : byVal c = true) (h : PE X e (tE G cl c)) (he : ∀ whole, isTrue e X.env whole = (do let v ← whole; standAt e.pos; holding [v] (truthy v))) : PT X e (tT G cl c) :=
  pt_imp (pt_truth (pe_val h) he) fun σ H Q ⟨env, b, env', E, ev, q⟩ => by
    rw [evalT_val hb] at ev
    obtain ⟨s1, x, e1, ev1, d1, ev⟩ := bindV_some ev
    obtain ⟨b', ev2, e2⟩ := map_some' ev
    cases e2
    exact ⟨env, s1, _, x, E, ev1, d1, fun v H1 p1 r1 => ⟨_, rep_tru hK r1 ev2, q H1 p1⟩⟩
theorem t_cmp {a b : Expr} {ca cb : CE} {o : COp} {op : CmpOp} {pos : Pos} (ho : OpR X (compareOp op) (rC G.toRc o)) (hm : behindInMarks op b = false) (ha : PE X a (tE G cl ca)) (hb : PE X b (tE G cl cb)) : PT X (.Compare a [op] [b] pos) (tT G cl (.cmp o ca cb)) :=
  pt_imp (pt_cmpR ho (pe_val ha) (pe_val hb) hm) fun σ H Q ⟨env, k, env', E, ev, q⟩ => by
    rw [evalT_val rfl, evalE] at ev
    obtain ⟨s0, x0, e0, ev0, d0, ev⟩ := bindV_some ev
    obtain ⟨k', ev9, e9⟩ := map_some' ev
    cases e9
    obtain ⟨s1, x, e1, ev1, d1, ev0⟩ := bindV_some ev0
    obtain ⟨s2, y, e2, ev2, d2, ev0⟩ := bindV_some ev0
    obtain ⟨s3, ev3, h3⟩ := map_some' ev0
    cases h3
    cases d0
    cases ev9
    refine ⟨env, s1, e1, x, E, ev1, d1, fun v H1 p1 r1 => ?_⟩
    refine ⟨e1, s2, _, y, p1.ok, ev2, d2, fun w H2 p2 r2 => ?_⟩
    exact ⟨x, y, _, r1.keep (p2.fr.kp p1.ok), r2, ev3, _, rfl, q H2 (p1.trans p2)⟩
theorem t_chain {a b c : Expr} {ca cb cc : CE} {o o' : COp} {op op' : CmpOp} {pos : Pos}
    (base : PT X (.Compare a [op, op'] [b, c] pos) (tTest (tChain (rC G.toRc o) (rC G.toRc o') (tV G cl ca) (tV G cl cb) (tV G cl cc)))) : PT X (.Compare a [op, op'] [b, c] pos) (tT G cl (.chain o o' ca cb cc)) :=
  pt_imp base fun σ H Q ⟨env, k, env', E, ev, q⟩ => by
    rw [evalT_val rfl, evalE] at ev
    obtain ⟨s0, x0, e0, ev0, d0, ev⟩ := bindV_some ev
    obtain ⟨k', ev9, e9⟩ := map_some' ev
    cases e9
    obtain ⟨s1, x, e1, ev1, d1, ev0⟩ := bindV_some ev0
    obtain ⟨s2, y, e2, ev2, d2, ev0⟩ := bindV_some ev0
    refine ⟨env, s1, e1, x, E, ev1, d1, fun v H1 p1 r1 => ?_⟩
    refine ⟨e1, s2, e2, y, p1.ok, ev2, d2, fun w H2 p2 r2 => ?_⟩
    split at ev0
    · rename_i hcmp
      obtain ⟨s3, z, e3, ev3, d3, ev0⟩ := bindV_some ev0
      obtain ⟨s4, ev4, h4⟩ := map_some' ev0
      cases h4
      cases d0
      cases ev9
      refine ⟨x, y, true, r1.keep (p2.fr.kp p1.ok), r2, hcmp, true, rfl, ?_⟩
      refine ⟨e2, s3, _, z, p2.ok, ev3, d3, fun w3 H3 p3 r3 => ?_⟩
      exact ⟨y, z, _, r2.keep (p3.fr.kp p2.ok), r3, ev4, _, rfl, q H3 ((p1.trans p2).trans p3)⟩
    · rename_i hcmp
      cases ev0
      cases d0
      cases ev9
      refine ⟨x, y, false, r1.keep (p2.fr.kp p1.ok), r2, hcmp, false, rfl, ?_⟩
      exact ⟨false, rfl, q H2 (p1.trans p2)⟩
    · cases ev0
theorem t_isN {a : Expr} {ca : CE} {n : Bool} {op : CmpOp} {b : Expr} {pos : Pos} (h : PT X (.Compare a [op] [b] pos) (tB (if n then tNotN (tV G cl ca) else tIsN (tV G cl ca)))) : PT X (.Compare a [op] [b] pos) (tT G cl (.isN n ca)) :=
  pt_imp h fun σ H Q ⟨env, k, env', E, ev, q⟩ => by
    rw [evalT_val rfl, evalE] at ev
    obtain ⟨s0, x0, e0, ev0, d0, ev⟩ := bindV_some ev
    obtain ⟨k', ev9, e9⟩ := map_some' ev
    cases e9
    obtain ⟨s1, x, e1, ev1, d1, ev0⟩ := bindV_some ev0
    cases ev0
    cases d0
    cases ev9
    cases n
    all_goals
      refine ⟨env, s1, _, x, E, ev1, d1, fun v H1 p1 r1 => ⟨_, rfl, ?_⟩⟩
      rw [rep_nonD r1]
      exact q H1 p1
theorem rep_read (hK : X.K = G.toRc.K) {env : En} {σ : Sg} {H : Hp} {i : Nat} {d : D} (E : EnvOk G env σ H) (h : readAt env i = some d) : ∃ v, σ[i]? = some (some v) ∧ (∀ b, d.truth = some b → TruV X.K v H b) ∧
    (∀ ds, d = .ls ds → ∃ a xs, v = .ref a ∧ SqL X.K H a xs ∧ Reps G.toRc H xs ds) ∧ ((∀ ds, d ≠ .ls ds) → Rep G.toRc H v d) := by
  unfold readAt at h
  split at h
  · rename_i sl hsl
    have z := E.slot i sl hsl
    cases sl with
    | nil => cases h
    | val d' =>
      cases h
      obtain ⟨v, e, r⟩ := z
      refine ⟨v, e, fun b hb => rep_tru hK r hb, fun ds hd => ?_, fun _ => r⟩
      subst hd
      obtain ⟨a, xs, e2, q, rr⟩ := rep_ls.mp r
      exact ⟨a, xs, e2, q.seqX hK, rr⟩
    | own ds =>
      cases h
      obtain ⟨a, xs, e, ha, rr, _⟩ := z
      refine ⟨_, e, fun b hb => ?_, fun ds' hd => ?_, fun n => absurd rfl (n ds)⟩
      · cases hb
        refine .inl ⟨xs, SqL.of ha, ?_⟩
        have := rr.length
        cases ds <;> cases xs <;> simp_all
      · cases hd
        exact ⟨a, xs, rfl, SqL.of ha, rr⟩
    | io ds =>
      cases h
      obtain ⟨a, xs, e, ha, rr, _⟩ := z
      refine ⟨_, e, fun b hb => ?_, fun ds' hd => ?_, fun n => absurd rfl (n ds)⟩
      · cases hb
        refine .inl ⟨xs, SqL.of ha, ?_⟩
        have := rr.length
        cases ds <;> cases xs <;> simp_all
      · cases hd
        exact ⟨a, xs, rfl, SqL.of ha, rr⟩
  · cases h
theorem t_var (hK : X.K = G.toRc.K) {i : Nat} {x : Str} {pos : Pos} (h : PE X (.Name x pos) (tVar i)) : PT X (.Name x pos) (tT G cl (.var i)) :=
  pt_imp (pt_truth h fun _ => rfl) fun σ H Q ⟨env, b, env', E, ev, q⟩ => by
    rw [evalT] at ev
    split at ev
    · rename_i d hd
      obtain ⟨b', ev2, e2⟩ := map_some' ev
      cases e2
      obtain ⟨v, e, ht, _⟩ := rep_read hK E hd
      exact ⟨v, e, _, ht _ ev2, q H (Post.refl E)⟩
    · cases ev
theorem t_true {j : Nat} {b : Bool} {pos : Pos} : PT X (.Constant (.bool b) j pos) (tT G cl (.cst (.bl b))) :=
  pt_imp (pt_val pe_bl) fun σ H Q ⟨env, k, env', E, ev, q⟩ => by
    rw [evalT] at ev
    cases ev
    exact ⟨_, rfl, q H (Post.refl E)⟩
end
end Pi

-- PiRev
set_option maxHeartbeats 1000000
namespace Pi
open PySem PySem.Spec PyProof.Rows L2 HT
theorem places_back (n : Nat) : Builtin.Slice.sliceAdjust none none (-1) (n : Int) = ((n : Int) - 1, -1) ∧ Builtin.Slice.slicePlaces ((n : Int) - 1) (-1) (-1) = n := by
  constructor
  · rfl
  · unfold Builtin.Slice.slicePlaces
    have h1 : ¬ ((-1 : Int) > 0) := by omega
    simp only [h1, if_false]
    by_cases h : (n : Int) - 1 > -1
    · rw [if_pos h]
      have : ((n : Int) - 1 - -1 - 1) / (- -1) = (n : Int) - 1 := by
        rw [show (- -1 : Int) = 1 by omega, Int.ediv_one]
        omega
      rw [this]
      omega
    · rw [if_neg h]
      omega
theorem pick_back (xs : List Value) : ((List.range xs.length).filterMap fun (m : Nat) => xs.toArray[(((xs.length : Int) - 1) + (m : Int) * (-1)).toNat]?) = xs.reverse := by
  apply List.ext_getElem?
  intro i
  have e : (fun (m : Nat) => xs.toArray[(((xs.length : Int) - 1) + (m : Int) * (-1)).toNat]?) = fun (m : Nat) => xs[(((xs.length : Int) - 1) + (m : Int) * (-1)).toNat]? := by
    funext m
    simp
  rw [e]
  have all : ∀ (l : List Nat), (∀ m ∈ l, m < xs.length) → l.filterMap (fun (m : Nat) => xs[(((xs.length : Int) - 1) + (m : Int) * (-1)).toNat]?) = l.filterMap (fun m => xs.reverse[m]?) := by
    intro l hl
    induction l with
    | nil => rfl
    | cons m l ih =>
      have hm := hl m List.mem_cons_self
      have e2 : xs[(((xs.length : Int) - 1) + (m : Int) * (-1)).toNat]? = xs.reverse[m]? := by
        rw [List.getElem?_reverse hm]
        congr 1
        omega
      rw [List.filterMap_cons, List.filterMap_cons, e2, ih fun k hk => hl k (List.mem_cons_of_mem _ hk)]
  rw [all _ fun m hm => by simpa using hm]
  have self : ∀ (ys : List Value), (List.range ys.length).filterMap (fun m => ys[m]?) = ys := by
    intro ys
    induction ys with
    | nil => rfl
    | cons y ys ih =>
      rw [List.length_cons, List.range_succ_eq_map, List.filterMap_cons]
      simp only [List.getElem?_cons_zero]
      rw [List.filterMap_map]
      have : ((fun m => (y :: ys)[m]?) ∘ Nat.succ) = fun m => ys[m]? := by
        funext m
        simp
      rw [this, ih]
  have := self xs.reverse
  rw [List.length_reverse] at this
  rw [this]
section
variable {prog : Program} {w : World} {A : Around} {E : Value → Shared → Prop} {s : Shared}
theorem applied_back {sl : Addr} {vs : Value} {n : Nat} {Q : Int × Int × Nat → Shared → Prop} (hs : s.heap.IsSliceOf sl .none .none vs) (ps : IsPart vs (some (-1))) (h : Q ((n : Int) - 1, -1, n) s) :
    wpAny (model prog w) A (Builtin.Slice.sliceApplied (.ref sl) (pure (n : Int))) Q E s := by
  obtain ⟨os, hos, hcs, hds⟩ := id hs
  unfold Builtin.Slice.sliceApplied Builtin.Slice.sliceFields
  refine wpAny_bind (wpAny_bind (wpAny_field hos hds (x := Value.none) rfl (wpAny_bind (wpAny_field hos hds (x := Value.none) rfl (wpAny_bind (wpAny_field hos hds (x := vs) rfl (wpAny_pure ?_)))))))
  refine wpAny_bind (slicePart_ ps ?_)
  show wpAny _ _ (if ((-1 : Int) == 0) = true then _ else _) _ _ s
  rw [if_neg (by decide)]
  refine wpAny_bind (slicePart_none (wpAny_bind (slicePart_none (wpAny_bind (wpAny_pure ?_)))))
  obtain ⟨h1, h2⟩ := places_back n
  show wpAny _ _ (match Builtin.Slice.sliceAdjust none none (-1) (n : Int) with | (lo, hi) => pure (lo, (-1 : Int), Builtin.Slice.slicePlaces lo hi (-1))) _ _ s
  rw [h1]
  show wpAny _ _ (pure ((n : Int) - 1, (-1 : Int), Builtin.Slice.slicePlaces ((n : Int) - 1) (-1) (-1))) _ _ s
  rw [h2]
  exact wpAny_pure h
theorem tuple_back {t sl : Addr} {items : List Value} {vs : Value} {Q : Value → Shared → Prop} (ht : IsTup s.heap t items.toArray) (hs : s.heap.IsSliceOf sl .none .none vs) (ps : IsPart vs (some (-1)))
    (h : Q (.ref s.heap.objs.size) { s with heap := s.heap.push { cls := .type "tuple", data := .seq items.reverse.toArray } })
    (hsz : items.length ≤ sizeLine) : wpAny (model prog w) A (getItem (.ref t) (.ref sl)) Q E s := by
  have htake : sizeOk (.seq items.reverse.toArray) := by
    show items.reverse.toArray.size ≤ sizeLine
    rw [List.size_toArray, List.length_reverse]
    exact hsz
  obtain ⟨os, hos, hcs, hds⟩ := id hs
  have hTs : s.TypeIs (.ref sl) "slice" := ⟨os, hos, hcs⟩
  unfold getItem
  try with_reducible refine wpAny_holding ?_
  first | refine wpAny_bind (wpAny_pure ?_) | skip
  refine wpAny_bind (wpAny_sequenceKey ht.typeIs (by decide) ?_)
  refine wpAny_bind (wpAny_callSpecial?_slot (name := Str.ofString "__getitem__") ht.typeIs PyProof.Rows.slot_tuple_getitem
    (wpAny_call_entry PyProof.Rows.slot_tuple_getitem ht.typeIs entry_tuple_getitem ?_ (args_tuple_getitem _ _)))
  show wpAny _ _ (Builtin.Tuple.tupleItemsOf (.ref t) >>= _) _ _ s
  refine wpAny_bind (tupleItemsOf_ ht ?_)
  refine wpAny_bind (wpAny_typeOf hTs ?_)
  rw [if_pos (by decide)]
  have happ : ∀ A' : Around, wpAny (model prog w) A' (Builtin.Slice.sliceApplied (.ref sl) (pure (items.toArray.size : Int))) (fun r s' => r = ((items.length : Int) - 1, -1, items.length) ∧ s' = s) (fun _ _ => False) s := by
    intro A'
    rw [List.size_toArray]
    exact applied_back hs ps ⟨rfl, rfl⟩
  refine wpAny_bind (wpAny_mono (happ _) (fun r s' ⟨e1, e2⟩ => ?_) fun _ _ z => z.elim)
  subst e1 e2
  have hno : ¬ ((((items.length : Int) - 1) == 0 && (-1 : Int) == 1 && items.length == items.toArray.size) = true) := by
    intro q
    rw [Bool.and_eq_true, Bool.and_eq_true] at q
    exact absurd (eq_of_beq q.1.2) (by decide)
  show wpAny _ _ (if (((items.length : Int) - 1) == 0 && (-1 : Int) == 1 && items.length == items.toArray.size) = true then _ else _) _ _ _
  rw [if_neg hno, pick_back]
  first
    | exact wpAny_bind (m := Builtin.Tuple.tupleExact _) (wpAny_newObj_type (wpAny_pure ⟨_, rfl, wpAny_pure h⟩) htake)
    | exact wpAny_bind (m := Builtin.Tuple.tupleExact _) (wpAny_newObj_type (wpAny_bind (wpAny_pure (wpAny_pure ⟨_, rfl, wpAny_pure h⟩))) htake)
    | exact wpAny_bind (wpAny_bind (m := Builtin.Tuple.tupleExact _) (wpAny_newObj_type (wpAny_pure (wpAny_pure ⟨_, rfl, wpAny_pure h⟩)) htake))
    | exact wpAny_bind (wpAny_bind (m := Builtin.Tuple.tupleExact _) (wpAny_newObj_type (wpAny_pure ⟨_, rfl, wpAny_pure h⟩) htake))
end
section
variable {X : Cx} {G : Gh} {cl : Oracle}
theorem c_rev (hK : X.K = G.toRc.K) {e : Expr} {c : CE} {k : Nat} {p1 p2 p3 pos : Pos} (he : PE X e (tE G cl c)) : PE X (.Subscript e (.Slice none none (some (.UnaryOp .USub (.Constant (.int 1) k p1) p2)) p3) pos) (tE G cl (.rev c)) := by
  refine ⟨fun pins s σ H Q I ⟨env, sl, env', E, ev, q⟩ => ?_⟩
  rw [evalE] at ev
  obtain ⟨s1, x, e1, ev1, d1, ev⟩ := bindV_some ev
  obtain ⟨s3, ev3, h3⟩ := map_some' ev
  cases h3
  refine Subscript_ (thn ((pe_val he).run pins s σ H (fun v H' => Post G env σ H env' H' ∧ Rep G.toRc H' v x) I ⟨env, s1, _, x, E, ev1, d1, fun v H' p r => ⟨p, r⟩⟩) fun v s1 ⟨xv, H1, I1, r1, pp, rr⟩ => ?_)
  have qr : Res G.toRc H1 sl Q := Res.of E pp q
  have hst : PO X (some (.UnaryOp .USub (.Constant (.int 1) k p1) p2)) (tPart (tUn (rU fun i => .int (-i)) (tC (.int 1)))) := po_some (pe_un un_neg pe_int)
  refine wpAny_Slice (thn (po_none.run pins s1 σ H1 (fun o H2 => o = none ∧ H2 = H1) I1 ⟨rfl, rfl⟩) fun vl s2 ⟨l, H2, I2, pl, el, e2⟩ => ?_)
  subst el e2
  cases pl
  refine thn (po_none.run pins s2 σ H2 (fun o H3 => o = none ∧ H3 = H2) I2 ⟨rfl, rfl⟩) fun vu s3 ⟨u, H3, I3, pu, eu, e3⟩ => ?_
  subst eu e3
  cases pu
  refine thn (hst.run pins s3 σ H3 (fun o H4 => o = some (-1) ∧ H4 = H3) I3 ⟨1, rfl, -1, rfl, rfl, rfl⟩) fun vs s4 ⟨o, H4, I4, ps, eo, e4⟩ => ?_
  subst eo e4
  have I5 : Inv X pins σ H4 { s4 with heap := s4.heap.push { cls := .type "slice", data := .fields #[.none, .none, vs] } } := I4.kept (t' := s4.toks) fun b ob z => Heap.get?_push_of_some _ z
  cases x <;> try (cases (show (none : Option Slot) = some sl from ev3))
  · cases ev3
    obtain ⟨a, xs, ea, hx, ra⟩ := rep_tup.mp rr
    subst ea
    cases r1
    rw [← hK] at hx
    obtain ⟨its, r, ht, hz⟩ := I5.tuple hx
    have hlen := r.length
    show wpAny (model X.prog X.w) X.A (subscriptTail e (.Slice none none (some (.UnaryOp .USub (.Constant (.int 1) k p1) p2)) p3) (.ref a) (.ref s4.heap.objs.size)) (EP X pins σ Q) X.xe _
    refine tail_any (ops := [.ref a, .ref s4.heap.objs.size]) ht.typeIs PyProof.Rows.slot_tuple_getitem.lookup ?_ (by with_unfolding_all rfl)
    refine tuple_back ht (Heap.IsSliceOf.new _ .none .none vs) ps ?_ (by omega)
    refine ⟨.ref _, _, I5.laid (t' := s4.toks) (o := .tup xs.reverse) (fun b ob z => Heap.get?_push_of_some _ z) (Nat.le_refl _) ?_, rfl, qr.tup ra.rev (I5.hok.fresh (Nat.le_refl _))⟩
    exact ⟨by rw [List.length_reverse]; exact hz, _, r.reverse, IsTup.new _ _⟩
  · cases ev3
    obtain ⟨a, xs, ea, hx, ra⟩ := rep_ls.mp rr
    subst ea
    cases r1
    obtain ⟨its, r, ht, hz⟩ := I5.list (hx.seqX hK)
    have hlen := r.length
    show wpAny (model X.prog X.w) X.A (subscriptTail e (.Slice none none (some (.UnaryOp .USub (.Constant (.int 1) k p1) p2)) p3) (.ref a) (.ref s4.heap.objs.size)) (EP X pins σ Q) X.xe _
    refine tail_any (ops := [.ref a, .ref s4.heap.objs.size]) ht.isList.typeIs (PySem.slot_list_getitem.lookup) ?_ (by with_unfolding_all rfl)
    refine wpAny_getItem_list_slice ht.isList (Heap.IsSliceOf.new _ .none .none vs) .none .none ps (by decide) ?_ (by rw [List.size_toArray]; omega)
    rw [PySem.W.krv_pick]
    refine ⟨.ref _, _, I5.laid (t' := s4.toks) (o := .lst xs.reverse) (fun b ob z => Heap.get?_push_of_some _ z) (Nat.le_refl _) ?_, rfl, qr.lst ra.rev (I5.hok.fresh (Nat.le_refl _))⟩
    exact ⟨by rw [List.length_reverse]; exact hz, _, 0, r.reverse, Heap.get?_push_size _ rfl⟩
end
end Pi

-- PiExpr3
set_option maxHeartbeats 1000000
namespace Pi
open PySem PySem.Spec PyProof.Rows L2
section
variable {X : Cx} {G : Gh} {cl : Oracle}
def noSlice : Expr → Bool
  | .Slice .. => false
  | _ => true
theorem plain_of {b : Expr} (h : noSlice b = true) : PlainIx b := by
  intro o i
  cases b <;> first | rfl | cases h
def rIxD (R : Rc) : R2 := fun v w H Q => ∃ x y d, Rep R H v x ∧ Rep R H w y ∧ ixD x y = some d ∧ ∀ z, Rep R H z d → Q z H
theorem ix_data (hK : X.K = G.toRc.K) : IxR X (rIxD G.toRc) := by
  intro value slice pins s σ H x y v u Q I rx ry h hs
  refine ix_seq value slice pins s σ H x y v u Q I rx ry ?_ hs
  obtain ⟨dx, dy, d, hx, hy, e, q⟩ := h
  cases dx <;> cases dy <;> try (cases (show (none : Option D) = some d from e))
  · simp only [ixD] at e
    split at e
    · rename_i z k hz
      obtain ⟨c, e1, e2⟩ := map_some' e
      subst e2
      exact .inr (.inr ⟨z, k, c, rep_str.mp hx, rep_int.mp hy, hz, e1, q _ (rep_str.mpr rfl)⟩)
    · cases e
  · obtain ⟨a, xs, ea, qa, ra⟩ := rep_tup.mp hx
    obtain ⟨w, e1, r1⟩ := ra.atI e
    rw [← hK] at qa
    exact .inr (.inl ⟨a, xs, _, w, ea, rep_int.mp hy, qa, e1, q _ r1⟩)
  · obtain ⟨a, xs, ea, qa, ra⟩ := rep_ls.mp hx
    obtain ⟨w, e1, r1⟩ := ra.atI e
    exact .inl ⟨a, xs, _, w, ea, rep_int.mp hy, (qa.seqX hK), e1, q _ r1⟩
theorem c_ix (hK : X.K = G.toRc.K) {a b : Expr} {ca cb : CE} {pos : Pos} (hb0 : noSlice b = true) (ha : PE X a (tE G cl ca)) (hb : PE X b (tE G cl cb)) : PE X (.Subscript a b pos) (tE G cl (.ix ca cb)) :=
  pe_imp (pe_ix (ix_data hK) (pe_val ha) (pe_val hb) (plain_of hb0)) fun σ H Q ⟨env, sl, env', E, ev, q⟩ => by
    rw [evalE] at ev
    obtain ⟨s1, x, e1, ev1, d1, ev⟩ := bindV_some ev
    obtain ⟨s2, y, e2, ev2, d2, ev⟩ := bindV_some ev
    obtain ⟨d, ev3, h3⟩ := map_some' ev
    cases h3
    refine ⟨env, s1, e1, x, E, ev1, d1, fun v H1 p1 r1 => ?_⟩
    refine ⟨e1, s2, _, y, p1.ok, ev2, d2, fun w H2 p2 r2 => ?_⟩
    exact ⟨x, y, d, r1.keep (p2.fr.kp p1.ok), r2, ev3, fun z r => q z H2 (p1.trans p2) (sr_val r)⟩
theorem rIx_read (hK : X.K = G.toRc.K) {env : En} {σ : Sg} {H : Hp} {k : Nat} {x y d : D} {v w : V} {Q : VK} (E : EnvOk G env σ H) (hx : readAt env k = some x) (hv : σ[k]? = some (some v)) (r2 : Rep G.toRc H w y) (e : ixD x y = some d) (q : ∀ z, Rep G.toRc H z d → Q z H) : rIx X.K v w H Q := by
  obtain ⟨v', e', htr, hl, hr⟩ := rep_read hK E hx
  rw [hv] at e'; cases e'
  cases x <;> cases y <;> try (cases (show (none : Option D) = some d from e))
  · have r1 := hr (fun ds h => by cases h)
    simp only [ixD] at e
    split at e
    · rename_i z k hz
      obtain ⟨c, e1, e2⟩ := map_some' e
      subst e2
      exact .inr (.inr ⟨z, k, c, rep_str.mp r1, rep_int.mp r2, hz, e1, q _ (rep_str.mpr rfl)⟩)
    · cases e
  · have r1 := hr (fun ds h => by cases h)
    obtain ⟨a, xs, ea, qa, ra⟩ := rep_tup.mp r1
    obtain ⟨w', e1, r3⟩ := ra.atI e
    rw [← hK] at qa
    exact .inr (.inl ⟨a, xs, _, w', ea, rep_int.mp r2, qa, e1, q _ r3⟩)
  · obtain ⟨a, xs, ea, qa, ra⟩ := hl _ rfl
    obtain ⟨w', e1, r3⟩ := ra.atI e
    exact .inl ⟨a, xs, _, w', ea, rep_int.mp r2, qa, e1, q _ r3⟩
theorem c_ixv (hK : X.K = G.toRc.K) {a b : Expr} {k : Nat} {cb : CE} {pos : Pos} (hb0 : noSlice b = true) (ha : PE X a (tVar k)) (hb : PE X b (tE G cl cb)) : PE X (.Subscript a b pos) (tE G cl (.ixv k cb)) :=
  pe_imp (pe_ix (ix_seq (X := X)) ha (pe_val hb) (plain_of hb0)) fun σ H Q ⟨env, sl, env', E, ev, q⟩ => by
    rw [evalE] at ev
    split at ev
    · rename_i hs
      obtain ⟨x0, hx0⟩ := Option.isSome_iff_exists.mp hs
      obtain ⟨v, hv, _⟩ := rep_read hK E hx0
      obtain ⟨s2, y, e2, ev2, d2, ev⟩ := bindV_some ev
      split at ev
      · rename_i x hx
        obtain ⟨d, ev3, h3⟩ := map_some' ev
        cases h3
        refine ⟨v, hv, env, s2, _, y, E, ev2, d2, fun w H2 p2 r2 => ?_⟩
        exact rIx_read hK p2.ok hx hv r2 ev3 fun z r => q z H2 p2 (sr_val r)
      · cases ev
    · cases ev

def tP (G : Gh) (cl : Oracle) (c : CE) : TO := fun σ H Q => ∃ env s env' d o, EnvOk G env σ H ∧ evalE cl c env = some (s, env') ∧ s.toD = some d ∧ partD d = some o ∧ ∀ H', Post G env σ H env' H' → Q o H'
theorem p_none : PO X none (tP G cl (.cst .non)) := ⟨fun pins s σ H Q I ⟨env, sl, env', d, o, E, ev, hd, ho, q⟩ => po_none.run pins s σ H Q I (by
  rw [evalE] at ev
  cases ev
  cases hd
  cases ho
  exact q H (Post.refl E))⟩
theorem p_some {e : Expr} {c : CE} (h : PE X e (tE G cl c)) : PO X (some e) (tP G cl c) := by
  refine ⟨fun pins s σ H Q I ⟨env, sl, env', d, o, E, ev, hd, ho, q⟩ => ?_⟩
  rw [evalPart_some]
  refine thn ((pe_val h).run pins s σ H (fun v H' => Post G env σ H env' H' ∧ Rep G.toRc H' v d) I ⟨env, sl, env', d, E, ev, hd, fun v H' p r => ⟨p, r⟩⟩) fun u s1 ⟨x, H1, I1, r1, pp, rr⟩ => ?_
  cases d <;> try (cases (show (none : Option (Option Int)) = some o from ho))
  · cases ho
    rw [rep_non.mp rr] at r1
    cases r1
    exact ⟨none, H1, I1, .none, q H1 pp⟩
  · cases ho
    rw [rep_int.mp rr] at r1
    obtain ⟨t, rfl⟩ := r1
    exact ⟨_, H1, I1, .int _ t, q H1 pp⟩
def rSl (K : PySem.W.Frag) : V → Option Int → Option Int → Hp → VK → Prop := fun x lo hi H Q => (rSlL K x lo hi H Q ∨ rSlA K x lo hi H Q) ∨ rSlS x lo hi H Q
theorem sl_any : SlR X (rSl X.K) := SlR.or (SlR.or (sl_list (X := X)) (sl_tupA (X := X))) (sl_str (X := X))
theorem cutD_length (ds : List D) (lo hi : Option Int) : (cutD ds lo hi).length ≤ ds.length := by
  unfold cutD
  rw [List.length_take, List.length_drop]
  omega
theorem cut_whole (ds : List D) (lo hi : Option Int) (h : HT.sIx ds.length 0 lo = 0 ∧ HT.sIx ds.length ds.length hi = ds.length) : cutD ds lo hi = ds := by
  unfold cutD
  rw [h.1, h.2]
  simp
theorem rSl_tup (hK : X.K = G.toRc.K) {H : Hp} {v : V} {ds : List D} {l h : Option Int} {Q : VK} (r : Rep G.toRc H v (.tup ds)) (q : Res G.toRc H (.val (.tup (cutD ds l h))) Q) : rSl X.K v l h H Q := by
  obtain ⟨a, xs, ea, qa, ra⟩ := rep_tup.mp r
  have qa' := qa
  rw [← hK] at qa'
  refine .inl (.inr ⟨a, xs, ea, qa', fun hw => ?_, fun hw p np => q.tup (ra.cut l h) np⟩)
  rw [ra.length] at hw
  rw [cut_whole ds l h hw] at q
  subst ea
  exact q.same r
theorem c_sl (hK : X.K = G.toRc.K) {e : Expr} {lo hi : Option Expr} {c cl' ch : CE} {p2 pos : Pos} (he : PE X e (tE G cl c)) (hl : PO X lo (tP G cl cl')) (hh : PO X hi (tP G cl ch)) : PE X (.Subscript e (.Slice lo hi none p2) pos) (tE G cl (.sl c cl' ch)) :=
  pe_imp (pe_slice sl_any (pe_val he) hl hh) fun σ H Q ⟨env, sl, env', E, ev, q⟩ => by
    rw [evalE] at ev
    obtain ⟨s1, x, e1, ev1, d1, ev⟩ := bindV_some ev
    obtain ⟨s2, y, e2, ev2, d2, ev⟩ := bindV_some ev
    obtain ⟨s3, z, e3, ev3, d3, ev⟩ := bindV_some ev
    obtain ⟨s4, ev4, h4⟩ := map_some' ev
    cases h4
    unfold slD at ev4
    split at ev4
    · rename_i l h hl hh
      refine ⟨env, s1, e1, x, E, ev1, d1, fun v H1 p1 r1 => ?_⟩
      refine ⟨e1, s2, e2, y, l, p1.ok, ev2, d2, hl, fun H2 p2 => ?_⟩
      refine ⟨e2, s3, _, z, h, p2.ok, ev3, d3, hh, fun H3 p3 => ?_⟩
      have r3 := (r1.keep (p2.fr.kp p1.ok)).keep (p3.fr.kp p2.ok)
      have qr := Res.of E ((p1.trans p2).trans p3) q
      split at ev4 <;> try cases ev4
      · exact rSl_tup hK r3 qr
      · obtain ⟨a, xs, ea, qa, ra⟩ := rep_ls.mp r3
        exact .inl (.inl ⟨a, xs, ea, (qa.seqX hK), fun p np => qr.lst (ra.cut l h) np⟩)
      · split at ev4
        · cases ev4
          exact .inr ⟨_, rep_str.mp r3, by assumption, qr _ H3 (Ext.refl _) (rep_str.mpr rfl)⟩
        · cases ev4
    · cases ev4
theorem c_slv (hK : X.K = G.toRc.K) {e : Expr} {lo hi : Option Expr} {k : Nat} {cl' ch : CE} {p2 pos : Pos} (he : PE X e (tVar k)) (hl : PO X lo (tP G cl cl')) (hh : PO X hi (tP G cl ch)) : PE X (.Subscript e (.Slice lo hi none p2) pos) (tE G cl (.slv k cl' ch)) :=
  pe_imp (pe_slice sl_any he hl hh) fun σ H Q ⟨env, sl, env', E, ev, q⟩ => by
    rw [evalE] at ev
    split at ev
    · rename_i hs
      obtain ⟨x0, hx0⟩ := Option.isSome_iff_exists.mp hs
      obtain ⟨v, hv, _⟩ := rep_read hK E hx0
      obtain ⟨s2, y, e2, ev2, d2, ev⟩ := bindV_some ev
      obtain ⟨s3, z, e3, ev3, d3, ev⟩ := bindV_some ev
      split at ev
      · rename_i x hx
        obtain ⟨s4, ev4, h4⟩ := map_some' ev
        cases h4
        unfold slD at ev4
        split at ev4
        · rename_i l h hl hh
          refine ⟨v, hv, env, s2, e2, y, l, E, ev2, d2, hl, fun H2 p2 => ?_⟩
          refine ⟨e2, s3, _, z, h, p2.ok, ev3, d3, hh, fun H3 p3 => ?_⟩
          have qr := Res.of E (p2.trans p3) q
          obtain ⟨v', e', _, hls, hrs⟩ := rep_read hK p3.ok hx
          rw [hv] at e'; cases e'
          split at ev4 <;> try cases ev4
          · exact rSl_tup hK (hrs (fun ds h => by cases h)) qr
          · obtain ⟨a, xs, ea, qa, ra⟩ := hls _ rfl
            exact .inl (.inl ⟨a, xs, ea, qa, fun p np => qr.lst (ra.cut l h) np⟩)
          · split at ev4
            · cases ev4
              exact .inr ⟨_, rep_str.mp (hrs (fun ds h => by cases h)), by assumption, qr _ H3 (Ext.refl _) (rep_str.mpr rfl)⟩
            · cases ev4
        · cases ev4
      · cases ev
    · cases ev

theorem c_lenv (hK : X.K = G.toRc.K) {x : Str} {p p1 pos : Pos} {k : Nat} (h : ∀ {t : TE} {r : List V → Hp → VK → Prop}, CallR X (.builtin "len") r → PE X (.Name x p1) t → PE X (.Call (.Name "len" p) [.Name x p1] [] pos) (tCB r (tCons t tNil))) (hv : PE X (.Name x p1) (tVar k)) :
    PE X (.Call (.Name "len" p) [.Name x p1] [] pos) (tE G cl (.lenv k)) :=
  pe_imp (h (CallR.or (call_len_seq (X := X)) (call_len_str (X := X))) hv) fun σ H Q ⟨env, sl, env', E, ev, q⟩ => by
    rw [evalE] at ev
    split at ev
    · rename_i d hd
      obtain ⟨s4, ev4, h4⟩ := map_some' ev
      cases h4
      obtain ⟨v, hv, _, hl, hr⟩ := rep_read hK E hd
      refine ⟨v, hv, ?_⟩
      have qr := Res.of E (Post.refl E) q
      replace ev4 : biLen [d] = some sl := ev4
      unfold biLen at ev4
      split at ev4
      · rename_i ds e
        cases e
        cases ev4
        obtain ⟨a, xs, ea, qa, ra⟩ := rep_tup.mp (hr (fun ds h => by cases h))
        rw [← hK] at qa
        refine .inl ⟨a, xs, by rw [ea], .inr qa, ?_⟩
        rw [ra.length]
        exact qr.int
      · rename_i ds e
        cases e
        cases ev4
        obtain ⟨a, xs, ea, qa, ra⟩ := hl _ rfl
        refine .inl ⟨a, xs, by rw [ea], .inl qa, ?_⟩
        rw [ra.length]
        exact qr.int
      · rename_i z e
        cases e
        split at ev4 <;> cases ev4
        rename_i hz
        refine .inr ⟨z, by rw [rep_str.mp (hr (fun ds h => by cases h))], hz, qr.int⟩
      · cases ev4
    · cases ev
def rIsT (R : Rc) (t : Ty) : List V → Hp → VK → Prop := fun xs H Q => ∃ v d b, xs = [v, .ty (tyName t)] ∧ Rep R H v d ∧ isTy t d = some b ∧ Q (.bl b) H
theorem call_isT (hK : X.K = G.toRc.K) (t : Ty) : CallR X (.builtin "isinstance") (rIsT G.toRc t) := by
  intro pins s σ H xs us Q I rv h
  obtain ⟨v, d, b, rfl, r, e, q⟩ := h
  obtain ⟨u1, u2, rfl, r1, r2⟩ := vals2 rv
  cases (show u2 = Value.type (tyName t) from r2)
  exact bi_isi hK I r1 r e q
theorem c_isi (hK : X.K = G.toRc.K) {e : Expr} {c : CE} {t : Ty} {y : Str} {p p1 pos : Pos} (he : PE X e (tE G cl c)) (hy : PE X (.Name y p1) (tC (.ty (tyName t))))
    (h : ∀ {t' : TA} {r : List V → Hp → VK → Prop}, CallR X (.builtin "isinstance") r → PA X [e, .Name y p1] t' → PE X (.Call (.Name "isinstance" p) [e, .Name y p1] [] pos) (tCB r t')) (hs : isStar e = false) :
    PE X (.Call (.Name "isinstance" p) [e, .Name y p1] [] pos) (tE G cl (.isi c t)) :=
  pe_imp (h (call_isT hK t) (pa_cons (pe_val he) (pa_cons hy pa_nil) (star_one hs))) fun σ H Q ⟨env, sl, env', E, ev, q⟩ => by
    rw [evalE] at ev
    obtain ⟨s1, x, e1, ev1, d1, ev⟩ := bindV_some ev
    obtain ⟨b, ev4, h4⟩ := map_some' ev
    cases h4
    exact ⟨env, s1, _, x, E, ev1, d1, fun v H1 p1 r1 => ⟨v, x, b, rfl, r1, ev4, q _ H1 p1 sr_bl⟩⟩
theorem list_at {env : En} {σ : Sg} {H : Hp} {i : Nat} {ds : List D} (E : EnvOk G env σ H) (h : listAt env i = some ds) : ∃ s a xs, env[i]? = some s ∧ s.isMut = true ∧ s.list = some ds ∧ σ[i]? = some (some (V.ref a)) ∧ H a = some (.lst xs) ∧ Reps G.toRc H xs ds := by
  unfold listAt at h
  split at h
  · rename_i s hs
    have z := E.slot i s hs
    cases s with
    | nil => cases h
    | val d => cases h
    | own ds' =>
      cases h
      obtain ⟨a, xs, e, ha, r, _⟩ := z
      exact ⟨_, a, xs, hs, rfl, rfl, e, ha, r⟩
    | io ds' =>
      cases h
      obtain ⟨a, xs, e, ha, r, _⟩ := z
      exact ⟨_, a, xs, hs, rfl, rfl, e, ha, r⟩
  · cases h
theorem put_list {env env1 : En} {σ : Sg} {H : Hp} {i : Nat} {es : List D} {s : Slot} {a : Addr} {ys : List V} (E : EnvOk G env σ H) (he : env[i]? = some s) (hm : s.isMut = true) (hσ : σ[i]? = some (some (V.ref a))) (h : putList env i es = some env1)
    (r : Reps G.toRc (upd H a (.lst ys)) ys es) : Post G env σ H env1 (upd H a (.lst ys)) := by
  have z := E.slot i s he
  unfold putList at h
  rw [he] at h
  cases s with
  | nil => cases hm
  | val d => cases hm
  | own ds =>
    cases h
    obtain ⟨b, xs, e, hb, rr, h0⟩ := z
    rw [hσ] at e; cases e
    exact Post.put E he rfl hσ ⟨_, ys, hσ, upd_same, r, h0⟩ (fun ds h => by cases h)
  | io ds =>
    cases h
    obtain ⟨b, xs, e, hb, rr, h0⟩ := z
    rw [hσ] at e; cases e
    exact Post.put E he rfl hσ ⟨_, ys, hσ, upd_same, r, h0⟩ (fun ds h => ⟨_, rfl⟩)
theorem reps_last {R : Rc} {H : Hp} {ds : List D} {d : D} {xs : List V} (r : Reps R H xs ds) (h : ds.getLast? = some d) : ∃ v, xs[xs.length - 1]? = some v ∧ Rep R H v d := by
  rw [List.getLast?_eq_getElem?] at h
  rw [r.length]
  exact r.get h
theorem c_pop {k : Nat} {x : Str} {apos cpos p1 : Pos} (hv : PE X (.Name x p1) (tVar k)) (hbase : attributeBase (.Name x p1) "pop" X.env (eval (.Name x p1) X.env) = eval (.Name x p1) X.env) (hline : (apos.endLine == cpos.line) = true) :
    PE X (.Call (.Attribute (.Name x p1) "pop" apos) [] [] cpos) (tE G cl (.pop k)) :=
  pe_imp (pe_bm0 PySem.F.plainAttrs_list PySem.F.slot_list_pop PySem.F.type_list_pop mt_pop hv hbase hline) fun σ H Q ⟨env, sl, env', E, ev, q⟩ => by
    rw [evalE] at ev
    split at ev
    · rename_i ds hd
      split at ev
      · rename_i d hl
        obtain ⟨e1, ev4, h4⟩ := map_some' ev
        cases h4
        obtain ⟨s, a, xs, he, hm, _, hσ, ha, r⟩ := list_at E hd
        obtain ⟨v, e2, rv⟩ := reps_last r hl
        refine ⟨.ref a, hσ, .inl ⟨rfl, xs, SqL.of ha⟩, a, xs, v, rfl, rfl, ha, e2, ?_⟩
        exact q v _ (put_list E he hm hσ ev4 ((r.keep (Kp.put ha)).dropLast)) (sr_val (rv.keep (Kp.put ha)))
      · cases ev
    · cases ev
end
end Pi

-- PiCall
set_option maxHeartbeats 1000000
namespace Pi
open PySem PySem.Spec PyProof.Rows L2

def ArgOk (R : Rc) (H : Hp) : Slot → V → Prop
  | .val d, v => Rep R H v d
  | .own ds, v => ∃ a xs, v = .ref a ∧ H a = some (.lst xs) ∧ Reps R H xs ds
  | _, _ => False
def ArgsOk (R : Rc) (H : Hp) : List Slot → List V → Prop
  | [], [] => True
  | s :: ss, v :: vs => ArgOk R H s v ∧ ArgsOk R H ss vs
  | _, _ => False
def ownsOf : List Slot → List V → List Addr
  | .own _ :: ss, .ref a :: vs => a :: ownsOf ss vs
  | _ :: ss, _ :: vs => ownsOf ss vs
  | _, _ => []
def OutsOk (R : Rc) (H : Hp) : List Addr → List (List D) → Prop
  | [], [] => True
  | a :: as, ds :: dss => (∃ xs, H a = some (.lst xs) ∧ Reps R H xs ds) ∧ OutsOk R H as dss
  | _, _ => False
def RetOk (R : Rc) (H H' : Hp) : Slot → V → Prop
  | .val d, v => Rep R H' v d
  | .own ds, v => ∃ a xs, v = .ref a ∧ H a = none ∧ H' a = some (.lst xs) ∧ Reps R H' xs ds
  | _, _ => False
structure Aft (R : Rc) (H : Hp) (args : List Slot) (vs : List V) (r : Slot) (outs : List (List D)) (v : V) (H' : Hp) : Prop where
  ret : RetOk R H H' r v
  outs : OutsOk R H' (ownsOf args vs) outs
  keep : ∀ a o, H a = some o → a ∉ ownsOf args vs → H' a = some o
  trk : ∀ a, H' a = none → H a = none
  apart : True
def spO (R : Rc) (cl : Oracle) (j : Nat) : Sp := fun vs H Q _ => ∃ args r outs, ArgsOk R H args vs ∧ (ownsOf args vs).Nodup ∧ cl j args = some (r, outs) ∧ ∀ v H', Aft R H args vs r outs v H' → Q v H'

theorem ArgsOk.length {R : Rc} {H : Hp} : ∀ {ss : List Slot} {vs : List V}, ArgsOk R H ss vs → vs.length = ss.length
  | [], [], _ => rfl
  | [], _ :: _, h => h.elim
  | _ :: _, [], h => h.elim
  | s :: ss, v :: vs, h => by simp [ArgsOk.length h.2]

section
variable {X : Cx} {G : Gh} {cl : Oracle}
def AsOk (G : Gh) (env' : En) (σ : Sg) (H' : Hp) : CEs → List Slot → List V → Prop
  | .nil, [], [] => True
  | .cons (.io i) es, .own ds :: ss, v :: vs => (∃ a, v = .ref a ∧ σ[i]? = some (some (V.ref a)) ∧ listAt env' i = some ds) ∧ AsOk G env' σ H' es ss vs
  | .cons (.io _) _, _, _ => False
  | .cons _ es, .val d :: ss, v :: vs => Rep G.toRc H' v d ∧ AsOk G env' σ H' es ss vs
  | _, _, _ => False
def tAs (G : Gh) (cl : Oracle) (c : CEs) : TA := fun σ H Q => ∃ env ss env', EnvOk G env σ H ∧ evalAs cl c env = some (ss, env') ∧ ∀ vs H', Post G env σ H env' H' → AsOk G env' σ H' c ss vs → Q vs H'
theorem a_nil : PA X [] (tAs G cl .nil) := pa_imp pa_nil fun σ H Q ⟨env, ds, env', E, ev, q⟩ => by
  rw [evalAs] at ev
  cases ev
  exact q [] H (Post.refl E) trivial
def isIo : CE → Bool
  | .io _ => true
  | _ => false
theorem evalAs_cons {c : CE} {cs : CEs} {env : En} (h : isIo c = false) : evalAs cl (.cons c cs) env = bindV (evalE cl c env) fun d e1 => bindSs (evalAs cl cs e1) fun ds e2 => some (.val d :: ds, e2) := by
  cases c <;> first | exact absurd (show true = false from h) (by decide) | rw [evalAs]
  all_goals (intro i hi; cases hi)
theorem asOk_cons {env' : En} {σ : Sg} {H' : Hp} {c : CE} {cs : CEs} {d : D} {ss : List Slot} {v : V} {vs : List V} (h : isIo c = false) (h1 : Rep G.toRc H' v d) (h2 : AsOk G env' σ H' cs ss vs) : AsOk G env' σ H' (.cons c cs) (.val d :: ss) (v :: vs) := by
  cases c <;> first | exact absurd (show true = false from h) (by decide) | exact ⟨h1, h2⟩
theorem a_cons {e : Expr} {es : List Expr} {c : CE} {cs : CEs} (hio : isIo c = false) (hs : isStar e = false) (he : PE X e (tE G cl c)) (hr : PA X es (tAs G cl cs)) : PA X (e :: es) (tAs G cl (.cons c cs)) :=
  pa_imp (pa_cons (pe_val he) hr (star_one hs)) fun σ H Q ⟨env, ds, env', E, ev, q⟩ => by
    rw [evalAs_cons hio] at ev
    obtain ⟨s1, x, e1, ev1, d1, ev⟩ := bindV_some ev
    obtain ⟨xs, e2, ev2, ev⟩ := bindSs_some' ev
    cases ev
    refine ⟨env, s1, e1, x, E, ev1, d1, fun v H1 p1 r1 => ?_⟩
    refine ⟨e1, xs, _, p1.ok, ev2, fun vs H2 p2 r2 => ?_⟩
    exact q _ H2 (p1.trans p2) (asOk_cons hio (r1.keep (p2.fr.kp p1.ok)) r2)
theorem a_io {x : Str} {p : Pos} {i : Nat} {es : List Expr} {cs : CEs} (hv : PE X (.Name x p) (tVar i)) (hK : X.K = G.toRc.K) (hr : PA X es (tAs G cl cs)) : PA X (.Name x p :: es) (tAs G cl (.cons (.io i) cs)) :=
  ⟨fun pos pins s σ H Q I ⟨env, ds, env', E, ev, q⟩ => by
    rw [evalAs] at ev
    split at ev
    · rename_i hs
      obtain ⟨d0, hd0⟩ := Option.isSome_iff_exists.mp hs
      obtain ⟨_, a, _, _, _, _, hσ, _, _⟩ := list_at E hd0
      obtain ⟨xs, e1, ev1, ev⟩ := bindSs_some' ev
      split at ev
      · rename_i ds hd
        cases ev
        refine (pa_cons hv hr (star_one (e := .Name x p) rfl)).run pos pins s σ H Q I ⟨_, hσ, env, xs, _, E, ev1, fun vs H2 p2 r2 => ?_⟩
        exact q _ H2 p2 ⟨⟨a, rfl, hσ, hd⟩, r2⟩
      · cases ev
    · cases ev⟩

theorem putList_at {env env1 : En} {i : Nat} {ds : List D} (h : putList env i ds = some env1) : (∀ j, j ≠ i → env1[j]? = env[j]?) ∧ ((∃ d0, env[i]? = some (Slot.own d0) ∧ env1[i]? = some (Slot.own ds)) ∨ (∃ d0, env[i]? = some (Slot.io d0) ∧ env1[i]? = some (Slot.io ds))) ∧ env1.length = env.length := by
  unfold putList at h
  split at h <;> cases h
  · rename_i d0 e
    have hi := (List.getElem?_eq_some_iff.mp e).1
    exact ⟨fun j hj => List.getElem?_set_ne (Ne.symm hj), .inl ⟨d0, e, List.getElem?_set_self hi⟩, List.length_set⟩
  · rename_i d0 e
    have hi := (List.getElem?_eq_some_iff.mp e).1
    exact ⟨fun j hj => List.getElem?_set_ne (Ne.symm hj), .inr ⟨d0, e, List.getElem?_set_self hi⟩, List.length_set⟩
structure Chg (R : Rc) (H : Hp) (as : List Addr) (dss : List (List D)) (H' : Hp) : Prop where
  outs : OutsOk R H' as dss
  keep : ∀ a o, H a = some o → a ∉ as → H' a = some o
  trk : ∀ a, H' a = none → H a = none
def AtOk (env : En) (σ : Sg) : List Nat → List Addr → Prop
  | [], [] => True
  | i :: is, a :: as => (∃ ds, listAt env i = some ds) ∧ σ[i]? = some (some (V.ref a)) ∧ AtOk env σ is as
  | _, _ => False
theorem putLists_char : ∀ {is : List Nat} {dss : List (List D)} {env env1 : En}, putLists env is dss = some env1 → is.Nodup → env1.length = env.length ∧ (∀ j, j ∉ is → env1[j]? = env[j]?) ∧
    ∀ (k j : Nat), is[k]? = some j → ∃ ds : List D, dss[k]? = some ds ∧ ((∃ d0, env[j]? = some (Slot.own d0) ∧ env1[j]? = some (Slot.own ds)) ∨ (∃ d0, env[j]? = some (Slot.io d0) ∧ env1[j]? = some (Slot.io ds))) := by
  intro is
  induction is with
  | nil =>
    intro dss env env1 h nd
    cases dss with
    | nil => cases h; exact ⟨rfl, fun _ _ => rfl, fun k j e => by simp at e⟩
    | cons _ _ => cases h
  | cons i is ih =>
    intro dss env env1 h nd
    cases dss with
    | nil => cases h
    | cons ds dss =>
      unfold putLists at h
      split at h
      · rename_i env2 h2
        obtain ⟨ni, nd2⟩ := List.nodup_cons.mp nd
        obtain ⟨c1, c2, c3⟩ := putList_at h2
        obtain ⟨l, o1, o2⟩ := ih h nd2
        refine ⟨l.trans c3, fun j hj => ?_, fun k j e => ?_⟩
        · rw [List.mem_cons, not_or] at hj
          rw [o1 j hj.2, c1 j hj.1]
        · cases k with
          | zero =>
            simp at e
            subst e
            refine ⟨ds, rfl, ?_⟩
            rw [o1 _ ni]
            exact c2
          | succ k =>
            have e' : is[k]? = some j := by simpa using e
            obtain ⟨ds', e1, e2⟩ := o2 k j e'
            have hji : j ≠ i := fun z => ni (z ▸ List.mem_of_getElem? e')
            rw [c1 j hji] at e2
            exact ⟨ds', by simpa using e1, e2⟩
      · cases h
theorem OutsOk.get {R : Rc} {H : Hp} : ∀ {as : List Addr} {dss : List (List D)} {k : Nat} {a : Addr} {ds : List D}, OutsOk R H as dss → as[k]? = some a → dss[k]? = some ds → ∃ xs, H a = some (.lst xs) ∧ Reps R H xs ds
  | [], [], k, _, _, _, e, _ => by simp at e
  | [], _ :: _, _, _, _, h, _, _ => h.elim
  | _ :: _, [], _, _, _, h, _, _ => h.elim
  | a :: as, ds :: dss, k, _, _, h, e, e2 => by
    cases k with
    | zero => simp at e e2; subst e e2; exact h.1
    | succ k => exact OutsOk.get h.2 (by simpa using e) (by simpa using e2)
theorem AtOk.get {env : En} {σ : Sg} : ∀ {is : List Nat} {as : List Addr} {k i : Nat}, AtOk env σ is as → is[k]? = some i → ∃ a ds, as[k]? = some a ∧ listAt env i = some ds ∧ σ[i]? = some (some (V.ref a))
  | [], [], k, _, _, e => by simp at e
  | [], _ :: _, _, _, h, _ => h.elim
  | _ :: _, [], _, _, h, _ => h.elim
  | j :: is, a :: as, k, i, h, e => by
    obtain ⟨⟨ds, h1⟩, h2, h3⟩ := h
    cases k with
    | zero => simp at e; subst e; exact ⟨a, ds, rfl, h1, h2⟩
    | succ k =>
      obtain ⟨b, es, q1, q2, q3⟩ := AtOk.get h3 (show is[k]? = some i by simpa using e)
      exact ⟨b, es, by simpa using q1, q2, q3⟩
theorem AtOk.mem {env : En} {σ : Sg} : ∀ {is : List Nat} {as : List Addr} {a : Addr}, AtOk env σ is as → a ∈ as → ∃ i ds, i ∈ is ∧ listAt env i = some ds ∧ σ[i]? = some (some (V.ref a))
  | [], [], _, _, e => by simp at e
  | [], _ :: _, _, h, _ => h.elim
  | _ :: _, [], _, h, _ => h.elim
  | j :: is, b :: as, a, h, e => by
    obtain ⟨⟨ds, h1⟩, h2, h3⟩ := h
    rcases List.mem_cons.mp e with rfl | e
    · exact ⟨j, ds, List.mem_cons_self, h1, h2⟩
    · obtain ⟨i, es, q1, q2, q3⟩ := AtOk.mem h3 e
      exact ⟨i, es, List.mem_cons_of_mem _ q1, q2, q3⟩
theorem AtOk.mut {env : En} {σ : Sg} {H : Hp} {is : List Nat} {as : List Addr} {a : Addr} (E : EnvOk G env σ H) (h : AtOk env σ is as) (m : a ∈ as) : MutAt env σ a := by
  obtain ⟨i, ds, _, h1, h2⟩ := h.mem m
  obtain ⟨s, b, xs, e1, e2, _, e3, _, _⟩ := list_at E h1
  exact ⟨i, s, e1, e2, h2⟩
theorem chg_post {σ : Sg} {is : List Nat} {as : List Addr} {dss : List (List D)} {env env1 : En} {H H' : Hp} (E : EnvOk G env σ H) (A : AtOk env σ is as) (nd : is.Nodup) (c : Chg G.toRc H as dss H') (h : putLists env is dss = some env1) : Post G env σ H env1 H' := by
  obtain ⟨hl, h1, h2⟩ := putLists_char h nd
  have kp : Kp H H' := by
    refine ⟨fun b zs e => c.keep b _ e fun m => ?_, fun b ob u e => c.keep b _ e fun m => ?_⟩
    · obtain ⟨ys, q⟩ := (A.mut E m).lst E
      rw [e] at q; cases q
    · obtain ⟨ys, q⟩ := (A.mut E m).lst E
      rw [e] at q; cases q
  -- each slot: as it was, or a list that has changed
  have each : ∀ (j : Nat) (s : Slot), env1[j]? = some s → (env[j]? = some s ∧ j ∉ is) ∨ (∃ s0 a, j ∈ is ∧ env[j]? = some s0 ∧ s0.isMut = true ∧ s.isMut = true ∧ σ[j]? = some (some (V.ref a)) ∧ SlotOk G H' σ j s ∧ (∀ ds, s0 = .io ds → ∃ ds', s = .io ds')) := by
    intro j s hs
    by_cases hj : j ∈ is
    · obtain ⟨k, hk, e⟩ := List.getElem_of_mem hj
      have hk' : is[k]? = some j := by rw [List.getElem?_eq_getElem hk, e]
      obtain ⟨a, ds0, q1, q2, q3⟩ := A.get hk'
      obtain ⟨ds, q4, q5⟩ := h2 k j hk'
      obtain ⟨xs, q6, q7⟩ := c.outs.get q1 q4
      rcases q5 with ⟨d0, e0, e1⟩ | ⟨d0, e0, e1⟩
      · rw [e1] at hs; cases hs
        obtain ⟨b, ys, w1, w2, w3, w4⟩ := E.slot j _ e0
        rw [q3] at w1; cases w1
        exact .inr ⟨_, a, hj, e0, rfl, rfl, q3, ⟨a, xs, q3, q6, q7, w4⟩, fun ds z => by cases z⟩
      · rw [e1] at hs; cases hs
        obtain ⟨b, ys, w1, w2, w3, w4⟩ := E.slot j _ e0
        rw [q3] at w1; cases w1
        exact .inr ⟨_, a, hj, e0, rfl, rfl, q3, ⟨a, xs, q3, q6, q7, w4⟩, fun ds z => ⟨_, rfl⟩⟩
    · rw [h1 j hj] at hs
      exact .inl ⟨hs, hj⟩
  have back : ∀ (j : Nat) (s : Slot), env1[j]? = some s → s.isMut = true → ∃ s0, env[j]? = some s0 ∧ s0.isMut = true := fun j s hs hm => by
    rcases each j s hs with ⟨e, _⟩ | ⟨s0, a, _, e, m0, _⟩
    · exact ⟨s, e, hm⟩
    · exact ⟨s0, e, m0⟩
  have apart : ∀ (j : Nat) (s : Slot) (b : Addr), j ∉ is → env[j]? = some s → s.isMut = true → σ[j]? = some (some (V.ref b)) → b ∉ as := fun j s b hj e hm hb m => by
    obtain ⟨i, ds, q1, q2, q3⟩ := A.mem m
    obtain ⟨s', b', _, w1, w2, _, w3, _, _⟩ := list_at E q2
    exact hj ((E.sep j i s s' b e w1 hm w2 hb q3) ▸ q1)
  refine ⟨⟨hl.trans E.len, fun j s hs => ?_, fun i j s t a e1 e2 m1 m2 q1 q2 => ?_, fun a o e n => ?_, fun p hp => ?_⟩, ⟨fun a o e n => c.keep a o e fun m => n (A.mut E m), c.trk⟩, fun j s e m => back j s e m⟩
  · rcases each j s hs with ⟨e, hj⟩ | ⟨s0, a, _, _, _, _, _, ok, _⟩
    · have z := E.slot j s e
      cases s with
      | nil => trivial
      | val d =>
        obtain ⟨v, w1, w2⟩ := z
        exact ⟨v, w1, w2.keep kp⟩
      | own ds =>
        obtain ⟨b, ys, w1, w2, w3, w4⟩ := z
        exact ⟨b, ys, w1, c.keep b _ w2 (apart j _ b hj e rfl w1), w3.keep kp, w4⟩
      | io ds =>
        obtain ⟨b, ys, w1, w2, w3, w4⟩ := z
        exact ⟨b, ys, w1, c.keep b _ w2 (apart j _ b hj e rfl w1), w3.keep kp, w4⟩
    · exact ok
  · obtain ⟨s0, f1, g1⟩ := back i s e1 m1
    obtain ⟨t0, f2, g2⟩ := back j t e2 m2
    exact E.sep i j s0 t0 a f1 f2 g1 g2 q1 q2
  · refine c.keep a o (E.fr a o e n) fun m => ?_
    obtain ⟨i, ds, q1, q2, q3⟩ := A.mem m
    obtain ⟨s', b', _, w1, w2, _, w3, _, _⟩ := list_at E q2
    have z := E.slot i s' w1
    cases s' with
    | nil => cases w2
    | val d => cases w2
    | own ds =>
      obtain ⟨b, ys, u1, u2, u3, u4⟩ := z
      rw [q3] at u1; cases u1
      rw [e] at u4; cases u4
    | io ds =>
      obtain ⟨b, ys, u1, u2, u3, u4⟩ := z
      rw [q3] at u1; cases u1
      exact n (List.mem_map.mpr ⟨_, u4, rfl⟩)
  · obtain ⟨ds, e, q⟩ := E.iok p hp
    by_cases hj : p.1 ∈ is
    · obtain ⟨k, hk, ek⟩ := List.getElem_of_mem hj
      have hk' : is[k]? = some p.1 := by rw [List.getElem?_eq_getElem hk, ek]
      obtain ⟨ds', _, q5⟩ := h2 k p.1 hk'
      rcases q5 with ⟨d0, e0, e1⟩ | ⟨d0, e0, e1⟩
      · rw [e] at e0; cases e0
      · exact ⟨ds', e1, q⟩
    · exact ⟨ds, by rw [h1 _ hj]; exact e, q⟩

theorem isIo_true {c : CE} (h : isIo c = true) : ∃ i, c = .io i := by
  cases c <;> first | exact ⟨_, rfl⟩ | exact absurd (show false = true from h) (by decide)
theorem asOk_inv {env' : En} {σ : Sg} {H' : Hp} {c : CE} {cs : CEs} {s : Slot} {ss : List Slot} {v : V} {vs : List V} (h : isIo c = false) (a : AsOk G env' σ H' (.cons c cs) (s :: ss) (v :: vs)) : ∃ d, s = .val d ∧ Rep G.toRc H' v d ∧ AsOk G env' σ H' cs ss vs := by
  cases s with
  | val d => exact ⟨d, rfl, by cases c <;> first | exact absurd (show true = false from h) (by decide) | exact a⟩
  | own ds => exact False.elim (by cases c <;> first | exact absurd (show true = false from h) (by decide) | exact a)
  | nil => exact False.elim (by cases c <;> exact a)
  | io ds => exact False.elim (by cases c <;> exact a)
theorem ios_cons {c : CE} {cs : CEs} (h : isIo c = false) : iosOf (.cons c cs) = iosOf cs := by
  cases c <;> first | exact absurd (show true = false from h) (by decide) | rfl
theorem asOk_args {env' : En} {σ : Sg} {H' : Hp} (E : EnvOk G env' σ H') : ∀ {es : CEs} {ss : List Slot} {vs : List V}, AsOk G env' σ H' es ss vs → ArgsOk G.toRc H' ss vs ∧ AtOk env' σ (iosOf es) (ownsOf ss vs)
  | .nil, [], [], _ => ⟨trivial, trivial⟩
  | .nil, [], _ :: _, h => h.elim
  | .nil, _ :: _, _, h => h.elim
  | .cons c es, [], _, h => False.elim (by cases c <;> exact h)
  | .cons c es, s :: ss, [], h => False.elim (by cases c <;> cases s <;> exact h)
  | .cons c es, s :: ss, v :: vs, h => by
    cases hio : isIo c with
    | true =>
      obtain ⟨i, rfl⟩ := isIo_true hio
      cases s with
      | own ds =>
        obtain ⟨⟨a, rfl, hσ, hl⟩, h2⟩ := h
        obtain ⟨q1, q2⟩ := asOk_args E h2
        obtain ⟨s', b, xs, _, _, _, w1, w2, w3⟩ := list_at E hl
        rw [hσ] at w1; cases w1
        exact ⟨⟨⟨a, xs, rfl, w2, w3⟩, q1⟩, ⟨⟨ds, hl⟩, hσ, q2⟩⟩
      | nil => exact h.elim
      | val d => exact h.elim
      | io ds => exact h.elim
    | false =>
      obtain ⟨d, rfl, h1, h2⟩ := asOk_inv hio h
      obtain ⟨q1, q2⟩ := asOk_args E h2
      rw [ios_cons hio]
      exact ⟨⟨h1, q1⟩, by cases v <;> exact q2⟩
theorem argsOk_app {R : Rc} {H : Hp} {dv : List D} {ds : List V} (hd : Reps R H ds dv) : ∀ {ss : List Slot} {vs : List V}, ArgsOk R H ss vs → ArgsOk R H (ss ++ dv.map .val) (vs ++ ds)
  | [], [], _ => by
    induction dv generalizing ds with
    | nil => rw [reps_nil] at hd; subst hd; trivial
    | cons d dv ih =>
      rw [reps_cons] at hd
      obtain ⟨v, r, rfl, h1, h2⟩ := hd
      exact ⟨h1, ih h2⟩
  | [], _ :: _, h => h.elim
  | _ :: _, [], h => h.elim
  | s :: ss, v :: vs, h => ⟨h.1, argsOk_app hd h.2⟩
theorem owns_app {dv : List D} {ds : List V} : ∀ {ss : List Slot} {vs : List V}, vs.length = ss.length → ownsOf (ss ++ dv.map .val) (vs ++ ds) = ownsOf ss vs
  | [], [], _ => by
    induction dv generalizing ds with
    | nil => cases ds <;> rfl
    | cons d dv ih =>
      cases ds with
      | nil => rfl
      | cons v ds =>
        have := ih (ds := ds)
        cases v <;> exact this
  | [], _ :: _, h => by simp at h
  | _ :: _, [], h => by simp at h
  | s :: ss, v :: vs, h => by
    have ih := owns_app (dv := dv) (ds := ds) (ss := ss) (vs := vs) (by simpa using h)
    cases s <;> cases v <;> first | exact ih | exact congrArg (List.cons _) ih
theorem at_nodup {env : En} {σ : Sg} {H : Hp} (E : EnvOk G env σ H) : ∀ {is : List Nat} {as : List Addr}, AtOk env σ is as → is.Nodup → as.Nodup
  | [], [], _, _ => List.nodup_nil
  | [], _ :: _, h, _ => h.elim
  | _ :: _, [], h, _ => h.elim
  | i :: is, a :: as, h, nd => by
    obtain ⟨⟨ds, h1⟩, h2, h3⟩ := h
    obtain ⟨n1, n2⟩ := List.nodup_cons.mp nd
    refine List.nodup_cons.mpr ⟨fun m => ?_, at_nodup E h3 n2⟩
    obtain ⟨j, es, q1, q2, q3⟩ := AtOk.mem h3 m
    obtain ⟨s, b, xs, e1, e2, _, e3, _, _⟩ := list_at E h1
    obtain ⟨s', b', xs', e1', e2', _, e3', _, _⟩ := list_at E q2
    exact n1 ((E.sep i j s s' a e1 e1' e2 e2' h2 q3) ▸ q1)
theorem aft_post {env' env2 : En} {σ : Sg} {H H1 H2 : Hp} {es : CEs} {ss : List Slot} {vs ds : List V} {dv : List D} {r : Slot} {outs : List (List D)} {v : V} {env : En} (E : EnvOk G env σ H) (p : Post G env σ H env' H1) (h : AsOk G env' σ H1 es ss vs) (nd : (iosOf es).Nodup)
    (hp : putLists env' (iosOf es) outs = some env2) (a : Aft G.toRc H1 (ss ++ dv.map .val) (vs ++ ds) r outs v H2) : Post G env σ H env2 H2 ∧ SlotRep G H H2 r v := by
  obtain ⟨q1, q2⟩ := asOk_args p.ok h
  have eo : ownsOf (ss ++ dv.map .val) (vs ++ ds) = ownsOf ss vs := owns_app q1.length
  have c : Chg G.toRc H1 (ownsOf ss vs) outs H2 := ⟨by rw [← eo]; exact a.outs, fun b o e n => a.keep b o e (by rw [eo]; exact n), a.trk⟩
  refine ⟨p.trans (chg_post p.ok q2 nd c hp), ?_⟩
  cases r with
  | val d => exact a.ret
  | own ds =>
    obtain ⟨b, xs, e, hn, hl, rr⟩ := a.ret
    exact ⟨b, xs, e, p.fr.trk b hn, hl, rr⟩
  | nil => exact a.ret.elim
  | io _ => exact a.ret.elim
theorem c_call {x : Str} {p pos : Pos} {e : Expr} {es : List Expr} {cs : CEs} {j : Nat} {dv : List D} {ds : List V} (hnd : (iosOf cs).Nodup) (hds : ∀ H, Reps G.toRc H ds dv) (base : PE X (.Call (.Name x p) (e :: es) [] pos) (tCall (spO G.toRc cl j) ds E0 (tAs G cl cs))) :
    PE X (.Call (.Name x p) (e :: es) [] pos) (tE G cl (.call j cs dv)) :=
  pe_imp base fun σ H Q ⟨env, sl, env', E, ev, q⟩ => by
    rw [evalE] at ev
    obtain ⟨ss, e1, ev1, ev⟩ := bindSs_some' ev
    split at ev
    · rename_i r outs hc
      obtain ⟨e2, hp, h2⟩ := map_some' ev
      cases h2
      refine ⟨env, ss, e1, E, ev1, fun vs H1 p1 h1 => ?_⟩
      obtain ⟨q1, q2⟩ := asOk_args p1.ok h1
      refine ⟨ss ++ dv.map .val, _, outs, argsOk_app (hds H1) q1, ?_, hc, fun v H2 a => ?_⟩
      · rw [owns_app q1.length]
        exact at_nodup p1.ok q2 hnd
      · obtain ⟨w1, w2⟩ := aft_post E p1 h1 hnd hp a
        exact q v H2 w1 w2
    · cases ev
end
end Pi

-- PiIter
set_option maxHeartbeats 1000000
namespace Pi
open PySem PySem.Spec PyProof.Rows L2
structure Wk (R : Rc) (J : It) (xs : List D) (B : Hp) : Prop where
  go : ∀ i H, Kp B H → i < xs.length → J.go i H
  stop : ∀ H, Kp B H → J.stop xs.length H
  yld : ∀ i H x H', Kp B H → i < xs.length → J.yld i H x H' → Ext H H' ∧ ∃ d, xs[i]? = some d ∧ Rep R H' x d
section
variable {X : Cx} {G : Gh} {cl : Oracle} {tg : Expr}
def tI (G : Gh) (cl : Oracle) (c : CI) : TI := fun σ H R => ∃ env xs env', EnvOk G env σ H ∧ evalI cl c env = some (xs, env') ∧ ∀ J H', Post G env σ H env' H' → Wk G.toRc J xs H' → xs.length ≤ sizeLine → R J H'
theorem pi_imp {it : Expr} {w w' : TI} (h : PI X tg it w) (f : ∀ σ H R, w' σ H R → w σ H R) : PI X tg it w' := ⟨fun pins s σ H R I q => h.run pins s σ H R I (f σ H R q)⟩
theorem wk_list {K : PySem.W.Frag} {R : Rc} {a : Addr} {xs : List V} {ds : List D} {H : Hp} (h : Fz K H a xs) (r : Reps R H xs ds) : Wk R (Itl K a) ds H := by
  have hl := r.length
  refine ⟨fun i H1 k hi => ⟨xs, xs[i]'(by omega), (k.fz h).seq, by simp⟩, fun H1 k => ⟨xs, (k.fz h).seq, by omega⟩, fun i H1 x H2 k hi y => ?_⟩
  obtain ⟨rfl, y⟩ := y
  have e := y xs (k.fz h).seq
  have hd : ds[i]? = some ds[i] := List.getElem?_eq_getElem hi
  obtain ⟨v, e1, rv⟩ := r.get hd
  rw [e] at e1; cases e1
  exact ⟨Ext.refl _, _, hd, rv.keep k⟩
theorem wk_tup {K : PySem.W.Frag} {R : Rc} {a : Addr} {xs : List V} {ds : List D} {H : Hp} (h : SqT K H a xs) (r : Reps R H xs ds) : Wk R (Itt K a) ds H := by
  have hl := r.length
  refine ⟨fun i H1 k hi => ⟨xs, xs[i]'(by omega), k.sqt h, by simp⟩, fun H1 k => ⟨xs, k.sqt h, by omega⟩, fun i H1 x H2 k hi y => ?_⟩
  obtain ⟨rfl, y⟩ := y
  have e := y xs (k.sqt h)
  have hd : ds[i]? = some ds[i] := List.getElem?_eq_getElem hi
  obtain ⟨v, e1, rv⟩ := r.get hd
  rw [e] at e1; cases e1
  exact ⟨Ext.refl _, _, hd, rv.keep k⟩
theorem range_get {lo : Int} {n i : Nat} (h : i < n) : (rangeD lo n)[i]? = some (.int (lo + (i : Int))) := by
  unfold rangeD
  rw [List.getElem?_map, List.getElem?_range h]
  rfl
theorem range_len (lo : Int) (n : Nat) : (rangeD lo n).length = n := by unfold rangeD; simp
theorem wk_range {R : Rc} {lo : Int} {n : Nat} {H : Hp} : Wk R (Itr lo n) (rangeD lo n) H := by
  refine ⟨fun i H1 k hi => by rw [range_len] at hi; exact hi, fun H1 k => by rw [range_len]; exact Nat.le_refl n, fun i H1 x H2 k hi y => ?_⟩
  obtain ⟨rfl, rfl⟩ := y
  rw [range_len] at hi
  exact ⟨Ext.refl _, _, range_get hi, rep_int.mpr rfl⟩
theorem i_sq (hK : X.K = G.toRc.K) {e : Expr} {c : CE} (he : PE X e (tE G cl c)) : PI X tg e (tI G cl (.sq c)) := by
  refine ⟨fun pins s σ H R I ⟨env, xs, env', E, ev, q⟩ => ?_⟩
  rw [evalI] at ev
  obtain ⟨s1, x, e1, ev1, d1, ev⟩ := bindV_some ev
  obtain ⟨ds, ev2, h2⟩ := map_some' ev
  cases h2
  refine thn ((pe_val he).run pins s σ H (fun v H' => Post G env σ H env' H' ∧ Rep G.toRc H' v x) I ⟨env, s1, _, x, E, ev1, d1, fun v H' p r => ⟨p, r⟩⟩) fun v s1 ⟨xv, H1, I1, r1, pp, rr⟩ => ?_
  have fresh : ∀ (o : Obj), ∀ b ∈ [s1.heap.objs.size], FpOk X pins H1 b := fun o b hb => by
    have e : b = s1.heap.objs.size := by simpa using hb
    rw [e]
    exact I1.fpOk (Nat.le_refl _) (I1.hok.fresh (Nat.le_refl _))
  cases x <;> try (cases (show (none : Option (List D)) = some xs from ev2))
  · cases ev2
    obtain ⟨a, vs, ea, hq, ra⟩ := rep_tup.mp rr
    subst ea
    cases r1
    have w := wk_tup (K := X.K) (by rw [hK]; exact hq) ra
    rw [← hK] at hq
    obtain ⟨its, rv, p, hz⟩ := I1.tuple hq
    refine wpAny_pyIter_tuple (show s1.heap.IsTuple a its.toArray from p) ?_
    refine ⟨_, [s1.heap.objs.size], _, _, H1, rfl, I1.kept (t' := s1.toks) fun b o e => Heap.get?_push_of_some _ e, turn_tuple a _, ⟨_, Heap.get?_push_size _ rfl, rfl, rfl⟩, fresh default, ?_⟩
    exact q _ H1 pp w (by rw [← ra.length]; exact hz)
  · cases ev2
    obtain ⟨a, vs, ea, hq, ra⟩ := rep_ls.mp rr
    subst ea
    cases r1
    have w := wk_list (K := X.K) (by rw [hK]; exact hq) ra
    obtain ⟨its, rv, p, hz⟩ := I1.list (hq.seqX hK)
    refine wpAny_pyIter_list p.isList ?_
    refine ⟨_, [s1.heap.objs.size], _, _, H1, rfl, I1.kept (t' := s1.toks) fun b o e => Heap.get?_push_of_some _ e, turn_list a _, ⟨_, Heap.get?_push_size _ rfl, rfl, rfl⟩, fresh default, ?_⟩
    exact q _ H1 pp w (by rw [← ra.length]; exact hz)
theorem i_rg1 {a : Expr} {c : CE} {p pos : Pos} (hg : Gl X "range") (hm : X.mg "range" = none) (hs : isStar a = false) (ha : PE X a (tE G cl c)) : PI X tg (.Call (.Name "range" p) [a] [] pos) (tI G cl (.rg1 c)) :=
  pi_imp (pi_range1 hg hm (pa_cons (pe_val ha) pa_nil (star_one hs)) (star_one hs)) fun σ H R ⟨env, xs, env', E, ev, q⟩ => by
    rw [evalI] at ev
    obtain ⟨s1, x, e1, ev1, d1, ev⟩ := bindV_some ev
    cases x <;> try (cases (show (none : Option (List D × En)) = some (xs, env') from ev))
    rename_i j
    simp only at ev
    split at ev <;> cases ev
    rename_i hz
    refine ⟨env, s1, _, _, E, ev1, d1, fun v H1 p1 r1 => ?_⟩
    refine ⟨j, by rw [rep_int.mp r1], hz.1.1, hz.1.2, q _ H1 p1 wk_range ?_⟩
    rw [range_len]
    omega
theorem i_rg2 {a b : Expr} {c c' : CE} {p pos : Pos} (hg : Gl X "range") (hm : X.mg "range" = none) (hs : isStar a = false) (hs' : isStar b = false) (ha : PE X a (tE G cl c)) (hb : PE X b (tE G cl c')) : PI X tg (.Call (.Name "range" p) [a, b] [] pos) (tI G cl (.rg2 c c')) :=
  pi_imp (pi_range2 hg hm (pa_cons (pe_val ha) (pa_cons (pe_val hb) pa_nil (star_one hs')) (star_one hs)) (by rw [star_one hs, star_one hs']; rfl) (star_one hs')) fun σ H R ⟨env, xs, env', E, ev, q⟩ => by
    rw [evalI] at ev
    obtain ⟨s1, x, e1, ev1, d1, ev⟩ := bindV_some ev
    obtain ⟨s2, y, e2, ev2, d2, ev⟩ := bindV_some ev
    cases x <;> cases y <;> try (cases (show (none : Option (List D × En)) = some (xs, env') from ev))
    simp only at ev
    split at ev
    · rename_i hz
      cases ev
      refine ⟨env, s1, _, _, E, ev1, d1, fun v H1 p1 r1 => ?_⟩
      refine ⟨e1, s2, _, _, p1.ok, ev2, d2, fun w H2 p2 r2 => ?_⟩
      refine ⟨_, _, by rw [rep_int.mp r1, rep_int.mp r2], ⟨hz.1.1, hz.1.2, hz.2.1.1, hz.2.1.2⟩, q _ H2 (p1.trans p2) wk_range ?_⟩
      rw [range_len]
      omega
    · cases ev
end

section
variable {X : Cx} {G : Gh} {cl : Oracle}
theorem EnvOk.setv {env : En} {σ : Sg} {H : Hp} {i : Nat} {s : Slot} {v : V} (E : EnvOk G env σ H) (hi : i < env.length) (ho : ∀ ds, env[i]? ≠ some (.io ds)) (hs : SlotOk G H (σ.set i (some v)) i s) (hn : s.isMut = true → ∀ a, v = .ref a → ¬ MutAt env σ a) (hio : ∀ ds, s ≠ .io ds) :
    EnvOk G (env.set i s) (σ.set i (some v)) H := by
  have hiσ : i < σ.length := by rw [← E.len]; exact hi
  have old : ∀ j t, (env.set i s)[j]? = some t → (j = i ∧ t = s) ∨ (j ≠ i ∧ env[j]? = some t) := fun j t e => by
    by_cases hj : j = i
    · subst hj
      rw [List.getElem?_set_self hi] at e
      exact .inl ⟨rfl, (Option.some.inj e).symm⟩
    · rw [List.getElem?_set_ne (Ne.symm hj)] at e
      exact .inr ⟨hj, e⟩
  have σne : ∀ j, j ≠ i → (σ.set i (some v))[j]? = σ[j]? := fun j hj => List.getElem?_set_ne (Ne.symm hj)
  have σself : (σ.set i (some v))[i]? = some (some v) := List.getElem?_set_self hiσ
  refine ⟨by rw [List.length_set, List.length_set]; exact E.len, fun j t e => ?_, fun j k t u b e1 e2 m1 m2 q1 q2 => ?_, E.fr, fun p hp => ?_⟩
  · rcases old j t e with ⟨rfl, rfl⟩ | ⟨hj, e⟩
    · exact hs
    · have z := E.slot j t e
      cases t with
      | nil => trivial
      | val d =>
        obtain ⟨w, w1, w2⟩ := z
        exact ⟨w, by rw [σne j hj]; exact w1, w2⟩
      | own ds =>
        obtain ⟨b, ys, w1, w2⟩ := z
        exact ⟨b, ys, by rw [σne j hj]; exact w1, w2⟩
      | io ds =>
        obtain ⟨b, ys, w1, w2⟩ := z
        exact ⟨b, ys, by rw [σne j hj]; exact w1, w2⟩
  · rcases old j t e1 with ⟨ej, et⟩ | ⟨hj, f1⟩
    · rcases old k u e2 with ⟨ek, eu⟩ | ⟨hk, f2⟩
      · rw [ej, ek]
      · exfalso
        rw [ej, σself] at q1
        rw [σne k hk] at q2
        rw [et] at m1
        exact hn m1 b (by cases q1; rfl) ⟨k, u, f2, m2, q2⟩
    · rcases old k u e2 with ⟨ek, eu⟩ | ⟨hk, f2⟩
      · exfalso
        rw [ek, σself] at q2
        rw [σne j hj] at q1
        rw [eu] at m2
        exact hn m2 b (by cases q2; rfl) ⟨j, t, f1, m1, q1⟩
      · rw [σne j hj] at q1
        rw [σne k hk] at q2
        exact E.sep j k t u b f1 f2 m1 m2 q1 q2
  · obtain ⟨ds, e, q⟩ := E.iok p hp
    have hj : p.1 ≠ i := fun z => ho ds (by rw [← z]; exact e)
    exact ⟨ds, by rw [List.getElem?_set_ne (Ne.symm hj)]; exact e, by rw [σne _ hj]; exact q⟩
theorem setSlot_some {env env1 : En} {i : Nat} {s : Slot} (h : setSlot env i s = some env1) : i < env.length ∧ (∀ ds, env[i]? ≠ some (.io ds)) ∧ env1 = env.set i s := by
  unfold setSlot at h
  split at h
  · cases h
  · cases h
  · rename_i t h2 e
    cases h
    exact ⟨(List.getElem?_eq_some_iff.mp e).1, fun ds z => h2 ds (by rw [e] at z; exact Option.some.inj z), rfl⟩
theorem set_val {env env1 : En} {σ : Sg} {H : Hp} {i : Nat} {d : D} {v : V} (E : EnvOk G env σ H) (h : setSlot env i (.val d) = some env1) (r : Rep G.toRc H v d) : EnvOk G env1 (σ.set i (some v)) H := by
  obtain ⟨h1, h2, rfl⟩ := setSlot_some h
  exact E.setv h1 h2 ⟨v, List.getElem?_set_self (by rw [← E.len]; exact h1), r⟩ (fun z => by cases z) (fun ds z => by cases z)
theorem set_own {env env1 : En} {σ : Sg} {H : Hp} {i : Nat} {ds : List D} {a : Addr} {xs : List V} (E : EnvOk G env σ H) (h : setSlot env i (.own ds) = some env1) (ha : H a = some (.lst xs)) (r : Reps G.toRc H xs ds) (h0 : G.H0 a = none) (hn : ¬ MutAt env σ a) : EnvOk G env1 (σ.set i (some (.ref a))) H := by
  obtain ⟨h1, h2, rfl⟩ := setSlot_some h
  exact E.setv h1 h2 ⟨a, xs, List.getElem?_set_self (by rw [← E.len]; exact h1), ha, r, h0⟩ (fun _ b e => by cases e; exact hn) (fun ds z => by cases z)

def Tg.vars : Tg → List Nat
  | .nm i => [i]
  | .tp is => is
def Off (vs : List Nat) (σ σ' : Sg) : Prop := σ'.length = σ.length ∧ ∀ j, j ∉ vs → σ'[j]? = σ[j]?
def tG (G : Gh) (t : Tg) : TG := fun v σ H Q => ∃ env d env', EnvOk G env σ H ∧ Rep G.toRc H v d ∧ bindTg t d env = some env' ∧ ∀ σ', EnvOk G env' σ' H → Off t.vars σ σ' → Q σ' H
def tGs (G : Gh) (is : List Nat) : TGs := fun vs σ H Q => ∃ env ds env', EnvOk G env σ H ∧ Reps G.toRc H vs ds ∧ is.length = ds.length ∧ setSlots env is (ds.map .val) = some env' ∧ ∀ σ', EnvOk G env' σ' H → Off is σ σ' → Q σ' H
theorem setSlots_old : ∀ {is : List Nat} {ds : List D} {env env' : En}, setSlots env is (ds.map .val) = some env' → ∀ (j : Nat) (s : Slot), env'[j]? = some s → s.isMut = true → env[j]? = some s ∧ j ∉ is
  | [], [], env, env', h, j, s, e, m => by cases h; exact ⟨e, by simp⟩
  | [], _ :: _, _, _, h, _, _, _, _ => by cases h
  | _ :: _, [], _, _, h, _, _, _, _ => by cases h
  | i :: is, d :: ds, env, env', h, j, s, e, m => by
    rw [List.map_cons] at h
    unfold setSlots at h
    split at h
    · rename_i env1 h1
      obtain ⟨q1, q2⟩ := setSlots_old h j s e m
      obtain ⟨w1, w2, rfl⟩ := setSlot_some h1
      by_cases hj : j = i
      · subst hj
        rw [List.getElem?_set_self w1] at q1
        cases q1
        cases m
      · rw [List.getElem?_set_ne (Ne.symm hj)] at q1
        exact ⟨q1, by simp [hj, q2]⟩
    · cases h
theorem bindTg_old {t : Tg} {d : D} {env env' : En} (h : bindTg t d env = some env') (j : Nat) (s : Slot) (e : env'[j]? = some s) (m : s.isMut = true) : env[j]? = some s ∧ j ∉ t.vars := by
  cases t with
  | nm i =>
    have h' : setSlots env [i] ([d].map .val) = some env' := by
      have h2 : setSlot env i (.val d) = some env' := h
      show (match setSlot env i (.val d) with | some e => setSlots e [] [] | none => none) = _
      rw [h2]
      rfl
    exact setSlots_old h' j s e m
  | tp is =>
    cases d <;> try (cases (show (none : Option En) = some env' from h))
    · simp only [bindTg] at h
      split at h
      · exact setSlots_old h j s e m
      · cases h
    · simp only [bindTg] at h
      split at h
      · exact setSlots_old h j s e m
      · cases h
theorem pg_imp {e : Expr} {t t' : TG} (h : PG X e t) (f : ∀ v σ H Q, t' v σ H Q → t v σ H Q) : PG X e t' := ⟨fun pins s σ H v u Q I r q => h.run pins s σ H v u Q I r (f v σ H Q q)⟩
theorem pgs_imp {e : List Expr} {t t' : TGs} (h : PGs X e t) (f : ∀ v σ H Q, t' v σ H Q → t v σ H Q) : PGs X e t' := ⟨fun pins s σ H v u Q I r q => h.run pins s σ H v u Q I r (f v σ H Q q)⟩
theorem off_set {σ : Sg} {i : Nat} {o : Option V} {vs : List Nat} (h : i ∈ vs) : Off vs σ (σ.set i o) := ⟨List.length_set, fun j hj => List.getElem?_set_ne (fun z => hj (by rw [← z]; exact h))⟩
theorem Off.trans {vs : List Nat} {σ σ1 σ2 : Sg} (a : Off vs σ σ1) (b : Off vs σ1 σ2) : Off vs σ σ2 := ⟨b.1.trans a.1, fun j hj => (b.2 j hj).trans (a.2 j hj)⟩
theorem Off.mono {vs ws : List Nat} {σ σ1 : Sg} (a : Off vs σ σ1) (h : ∀ j ∈ vs, j ∈ ws) : Off ws σ σ1 := ⟨a.1, fun j hj => a.2 j fun z => hj (h j z)⟩
theorem g_nm {x : Str} {i : Nat} {pos : Pos} (h : PG X (.Name x pos) (gName i)) : PG X (.Name x pos) (tG G (.nm i)) :=
  pg_imp h fun v σ H Q ⟨env, d, env', E, r, e, q⟩ => q _ (set_val E e r) (off_set (by simp [Tg.vars]))
theorem gs_nil : PGs X [] (tGs G []) := pgs_imp pgs_nil fun vs σ H Q ⟨env, ds, env', E, r, l, e, q⟩ => by
  cases ds with
  | nil =>
    rw [reps_nil] at r
    cases e
    exact ⟨r, q σ E ⟨rfl, fun _ _ => rfl⟩⟩
  | cons _ _ => simp at l
theorem gs_cons {x : Str} {i : Nat} {is : List Nat} {pos : Pos} {es : List Expr} (h : PG X (.Name x pos) (gName i)) (h2 : PGs X es (tGs G is)) : PGs X (.Name x pos :: es) (tGs G (i :: is)) :=
  pgs_imp (pgs_cons h h2) fun vs σ H Q ⟨env, ds, env', E, r, l, e, q⟩ => by
    cases ds with
    | nil => simp at l
    | cons d ds =>
      rw [reps_cons] at r
      obtain ⟨v, vs', rfl, r1, r2⟩ := r
      rw [List.map_cons] at e
      unfold setSlots at e
      split at e
      · rename_i env1 e1
        refine ⟨v, vs', rfl, env1, ds, env', set_val E e1 r1, r2, by simpa using l, e, fun σ' E' off => ?_⟩
        exact q σ' E' ((off_set List.mem_cons_self).trans (off.mono fun j hj => List.mem_cons_of_mem _ hj))
      · cases e
theorem g_tp (hK : X.K = G.toRc.K) {es : List Expr} {is : List Nat} {k : Nat} {pos : Pos} (hc : X.calm = true) (h : PGs X es (tGs G is)) (hn : (assignEach es X.env).length = is.length) (hst : (assignEach es X.env).findIdx? (·.1) = none) : PG X (.Tuple es k pos) (tG G (.tp is)) := by
  refine ⟨fun pins s σ H v u Q I r ⟨env, d, env', E, rd, e, q⟩ => ?_⟩
  cases d <;> try (cases (show (none : Option En) = some env' from e))
  · rename_i ds
    simp only [bindTg] at e
    split at e
    · rename_i hl
      obtain ⟨a, xs, ea, hq, ra⟩ := rep_tup.mp rd
      rw [← hK] at hq
      exact (pg_tup (t := tGs G is) (n := is.length) hc h hn hst).run pins s σ H v u Q I r ⟨a, xs, ea, hq, by rw [ra.length, hl], env, ds, env', E, ra, hl, e, q⟩
    · cases e
  · rename_i ds
    simp only [bindTg] at e
    split at e
    · rename_i hl
      obtain ⟨a, xs, ea, hq, ra⟩ := rep_ls.mp rd
      exact (pg_unl (t := tGs G is) (n := is.length) hc h hn hst).run pins s σ H v u Q I r ⟨a, xs, ea, hq.seqX hK, by rw [ra.length, hl], env, ds, env', E, ra, hl, e, q⟩
    · cases e
end
end Pi

-- PiComp
set_option maxHeartbeats 1000000
namespace Pi
open PySem PySem.Spec PyProof.Rows L2
theorem wipe_none {σ : Sg} {j : Nat} : ∀ {vs : List Nat}, j ∈ vs → j < σ.length → (wipe σ vs)[j]? = some none
  | v :: vs, h, hl => by
    unfold wipe
    by_cases hj : v = j
    · subst hj
      exact List.getElem?_set_self (by rw [wipe_length]; exact hl)
    · rw [List.getElem?_set_ne hj]
      rcases List.mem_cons.mp h with e | h
      · exact absurd e.symm hj
      · exact wipe_none h hl
theorem wipe_off {σ σ2 : Sg} {vs ws : List Nat} (h : Off ws (wipe σ vs) σ2) (hs : ∀ j ∈ ws, j ∈ vs) : wipe σ2 vs = wipe σ vs := by
  apply List.ext_getElem?
  intro j
  by_cases hj : j ∈ vs
  · by_cases hl : j < σ.length
    · rw [wipe_none hj hl, wipe_none hj (by rw [h.1, wipe_length]; exact hl)]
    · rw [List.getElem?_eq_none (by rw [wipe_length, h.1, wipe_length]; omega), List.getElem?_eq_none (by rw [wipe_length]; omega)]
  · rw [wipe_out hj, h.2 j fun z => hj (hs j z)]
theorem setSlot_nil {env env1 : En} {i : Nat} (h : setSlot env i .nil = some env1) : i < env.length ∧ (∀ ds, env[i]? ≠ some (.io ds)) ∧ env1 = env.set i .nil := setSlot_some h
theorem wipeEn_at : ∀ {vs : List Nat} {env env1 : En}, wipeEn env vs = some env1 → env1.length = env.length ∧ (∀ j, j ∉ vs → env1[j]? = env[j]?) ∧ (∀ j, j ∈ vs → env1[j]? = some .nil ∧ ∀ ds, env[j]? ≠ some (.io ds))
  | [], env, env1, h => by cases h; exact ⟨rfl, fun _ _ => rfl, fun j hj => by simp at hj⟩
  | v :: vs, env, env1, h => by
    unfold wipeEn at h
    split at h
    · rename_i e2 h2
      obtain ⟨l, q1, q2⟩ := wipeEn_at h2
      obtain ⟨w1, w2, rfl⟩ := setSlot_nil h
      refine ⟨by rw [List.length_set, l], fun j hj => ?_, fun j hj => ?_⟩
      · rw [List.mem_cons, not_or] at hj
        rw [List.getElem?_set_ne (Ne.symm hj.1)]
        exact q1 j hj.2
      · by_cases hv : j = v
        · subst hv
          refine ⟨List.getElem?_set_self w1, fun ds => ?_⟩
          by_cases hm : j ∈ vs
          · exact (q2 j hm).2 ds
          · rw [← q1 j hm]
            exact w2 ds
        · rcases List.mem_cons.mp hj with e | hj
          · exact absurd e hv
          · rw [List.getElem?_set_ne (Ne.symm hv)]
            exact q2 j hj
    · cases h
section
variable {X : Cx} {G : Gh} {cl : Oracle}
theorem wipe_ok {env env1 : En} {σ : Sg} {H : Hp} {vs : List Nat} (E : EnvOk G env σ H) (h : wipeEn env vs = some env1) : EnvOk G env1 (wipe σ vs) H ∧ (∀ (i : Nat) (s : Slot), env1[i]? = some s → s.isMut = true → env[i]? = some s ∧ i ∉ vs) := by
  obtain ⟨l, q1, q2⟩ := wipeEn_at h
  have old : ∀ (i : Nat) (s : Slot), env1[i]? = some s → (env[i]? = some s ∧ i ∉ vs) ∨ s = .nil := fun i s e => by
    by_cases hi : i ∈ vs
    · rw [(q2 i hi).1] at e
      exact .inr (Option.some.inj e).symm
    · rw [q1 i hi] at e
      exact .inl ⟨e, hi⟩
  have oldm : ∀ (i : Nat) (s : Slot), env1[i]? = some s → s.isMut = true → env[i]? = some s ∧ i ∉ vs := fun i s e m => by
    rcases old i s e with z | z
    · exact z
    · subst z; cases m
  refine ⟨⟨by rw [l, wipe_length]; exact E.len, fun i s e => ?_, fun i j s t a e1 e2 m1 m2 q3 q4 => ?_, E.fr, fun p hp => ?_⟩, oldm⟩
  · rcases old i s e with ⟨z, hi⟩ | z
    · have w := E.slot i s z
      cases s with
      | nil => trivial
      | val d =>
        obtain ⟨v, w1, w2⟩ := w
        exact ⟨v, by rw [wipe_out hi]; exact w1, w2⟩
      | own ds =>
        obtain ⟨b, ys, w1, w2⟩ := w
        exact ⟨b, ys, by rw [wipe_out hi]; exact w1, w2⟩
      | io ds =>
        obtain ⟨b, ys, w1, w2⟩ := w
        exact ⟨b, ys, by rw [wipe_out hi]; exact w1, w2⟩
    · subst z; trivial
  · obtain ⟨f1, g1⟩ := oldm i s e1 m1
    obtain ⟨f2, g2⟩ := oldm j t e2 m2
    rw [wipe_out g1] at q3
    rw [wipe_out g2] at q4
    exact E.sep i j s t a f1 f2 m1 m2 q3 q4
  · obtain ⟨ds, e, q⟩ := E.iok p hp
    have hi : p.1 ∉ vs := fun z => (q2 _ z).2 ds e
    exact ⟨ds, by rw [q1 _ hi]; exact e, by rw [wipe_out hi]; exact q⟩
theorem restore_at {old env : En} : ∀ {vs : List Nat}, old.length = env.length → (∀ v ∈ vs, v < env.length) → (restore old env vs).length = env.length ∧ (∀ j, j ∉ vs → (restore old env vs)[j]? = env[j]?) ∧ ∀ j, j ∈ vs → (restore old env vs)[j]? = old[j]?
  | [], _, _ => ⟨rfl, fun _ _ => rfl, fun j hj => by simp at hj⟩
  | v :: vs, hl, hv => by
    obtain ⟨l, q1, q2⟩ := restore_at (vs := vs) hl fun w hw => hv w (List.mem_cons_of_mem _ hw)
    have hvl : v < env.length := hv v List.mem_cons_self
    have ev : old[v]? = some old[v] := List.getElem?_eq_getElem (by omega)
    unfold restore
    rw [ev]
    refine ⟨by rw [List.length_set, l], fun j hj => ?_, fun j hj => ?_⟩
    · rw [List.mem_cons, not_or] at hj
      rw [List.getElem?_set_ne (Ne.symm hj.1)]
      exact q1 j hj.2
    · by_cases hjv : j = v
      · subst hjv
        rw [List.getElem?_set_self (by rw [l]; exact hvl), ev]
      · rw [List.getElem?_set_ne (Ne.symm hjv)]
        rcases List.mem_cons.mp hj with e | hj
        · exact absurd e hjv
        · exact q2 j hj
theorem restore_ok {e1 e2 en : En} {σ : Sg} {H1 H' : Hp} {vs : List Nat} (E : EnvOk G e1 σ H1) (hw : wipeEn e1 vs = some e2) (p : Post G e2 (wipe σ vs) H1 en H') : Post G e1 σ H1 (restore e1 en vs) H' := by
  obtain ⟨l, q1, q2⟩ := wipeEn_at hw
  obtain ⟨E2, oldm⟩ := wipe_ok E hw
  have len2 : en.length = e1.length := by
    rw [p.ok.len, wipe_length]
    exact E.len.symm
  have hv : ∀ v ∈ vs, v < en.length := fun v h => by
    have := (q2 v h).1
    rw [len2, ← l]
    exact (List.getElem?_eq_some_iff.mp this).1
  obtain ⟨rl, r1, r2⟩ := restore_at (old := e1) (env := en) len2.symm hv
  have kp : Kp H1 H' := p.fr.kp E2
  -- a list of a slot that was forgotten is kept
  have kept : ∀ (j : Nat) (s : Slot) (a : Addr) (o : HO), j ∈ vs → e1[j]? = some s → s.isMut = true → σ[j]? = some (some (V.ref a)) → H1 a = some o → H' a = some o := fun j s a o hj e m q h => p.fr.keep a o h fun z => by
    obtain ⟨k, t, f1, f2, f3⟩ := z
    obtain ⟨g1, g2⟩ := oldm k t f1 f2
    rw [wipe_out g2] at f3
    exact g2 ((E.sep k j t s a g1 e f2 m f3 q) ▸ hj)
  have back : ∀ (j : Nat) (s : Slot), (restore e1 en vs)[j]? = some s → s.isMut = true → ∃ s0, e1[j]? = some s0 ∧ s0.isMut = true := fun j s e m => by
    by_cases hj : j ∈ vs
    · rw [r2 j hj] at e
      exact ⟨s, e, m⟩
    · rw [r1 j hj] at e
      obtain ⟨s0, f1, f2⟩ := p.sub j s e m
      exact ⟨s0, (oldm j s0 f1 f2).1, f2⟩
  refine ⟨⟨by rw [rl, len2]; exact E.len, fun j s e => ?_, fun i j s t a e3 e4 m1 m2 q3 q4 => ?_, fun a o h n => ?_, fun pp hp => ?_⟩, ⟨fun a o h n => p.fr.keep a o h fun z => n ?_, p.fr.trk⟩, back⟩
  · by_cases hj : j ∈ vs
    · rw [r2 j hj] at e
      have w := E.slot j s e
      cases s with
      | nil => trivial
      | val d =>
        obtain ⟨v, w1, w2⟩ := w
        exact ⟨v, w1, w2.keep kp⟩
      | own ds =>
        obtain ⟨b, ys, w1, w2, w3, w4⟩ := w
        exact ⟨b, ys, w1, kept j _ b _ hj e rfl w1 w2, w3.keep kp, w4⟩
      | io ds =>
        obtain ⟨b, ys, w1, w2, w3, w4⟩ := w
        exact ⟨b, ys, w1, kept j _ b _ hj e rfl w1 w2, w3.keep kp, w4⟩
    · rw [r1 j hj] at e
      have w := p.ok.slot j s e
      cases s with
      | nil => trivial
      | val d =>
        obtain ⟨v, w1, w2⟩ := w
        rw [wipe_out hj] at w1
        exact ⟨v, w1, w2⟩
      | own ds =>
        obtain ⟨b, ys, w1, w2⟩ := w
        rw [wipe_out hj] at w1
        exact ⟨b, ys, w1, w2⟩
      | io ds =>
        obtain ⟨b, ys, w1, w2⟩ := w
        rw [wipe_out hj] at w1
        exact ⟨b, ys, w1, w2⟩
  · obtain ⟨s0, f1, g1⟩ := back i s e3 m1
    obtain ⟨t0, f2, g2⟩ := back j t e4 m2
    exact E.sep i j s0 t0 a f1 f2 g1 g2 q3 q4
  · exact p.ok.fr a o h n
  · obtain ⟨ds, e, q⟩ := E.iok pp hp
    have hj : pp.1 ∉ vs := fun z => (q2 _ z).2 ds e
    obtain ⟨ds', e', _⟩ := p.ok.iok pp hp
    exact ⟨ds', by rw [r1 _ hj]; exact e', q⟩
  · obtain ⟨k, t, f1, f2, f3⟩ := z
    obtain ⟨g1, g2⟩ := oldm k t f1 f2
    rw [wipe_out g2] at f3
    exact ⟨k, t, g1, f2, f3⟩
def lcBody (cl : Oracle) (elt : CE) (t : Tg) (cond : CE) (vs : List Nat) (x : D) (e : En) : Option (Option D × En) :=
  match bindTg t x e with
  | some e3 => bindB (evalT cl cond e3) fun b e4 => if b then bindV (evalE cl elt e4) fun d e5 => (wipeEn e5 vs).map fun e6 => (some d, e6) else (wipeEn e4 vs).map fun e6 => (none, e6)
  | none => none
theorem evalE_lc (elt : CE) (t : Tg) (it : CI) (cond : CE) (vs : List Nat) (env : En) : evalE cl (.lc elt t it cond vs) env = bindDs (evalI cl it env) fun xs e1 => match wipeEn e1 vs with
    | some e2 => (lcLoop (lcBody cl elt t cond vs) xs e2 []).map fun p => (.own p.1, restore e1 p.2 vs)
    | none => none := by
  rw [evalE]
  rfl
theorem lc_reads {elt : CE} {t : Tg} {it : CI} {cond : CE} {vs : List Nat} (hv : ∀ j ∈ t.vars, j ∈ vs) {σ : Sg} {H : Hp} {Q : VK} (h : tE G cl (.lc elt t it cond vs) σ H Q) : tLc (tI G cl it) (tG G t) (tT G cl cond) (tV G cl elt) vs σ H Q := by
  obtain ⟨env, sl, env', E, ev, q⟩ := h
  rw [evalE_lc] at ev
  obtain ⟨xs, e1, ev1, ev⟩ := bindDs_some' ev
  split at ev
  · rename_i e2 hw
    obtain ⟨fin, ev2, h2⟩ := map_some' ev
    cases h2
    refine ⟨env, xs, e1, E, ev1, fun J H1 p1 wk hlen Dl hD => ?_⟩
    obtain ⟨E2, oldm⟩ := wipe_ok p1.ok hw
    have h0 : G.H0 Dl = none := p1.ok.fresh hD
    have nD : ∀ {en : En} {τ : Sg}, (∀ a, MutAt en τ a → MutAt e2 (wipe σ vs) a) → ¬ MutAt en τ Dl := fun hsub m => by
      obtain ⟨ys, z⟩ := (hsub _ m).lst E2
      rw [hD] at z; cases z
    refine ⟨fun i m H' => ∃ en acc accv, Post G e2 (wipe σ vs) H1 en H' ∧ H' Dl = some (.lst accv) ∧ Reps G.toRc H' accv acc ∧ i ≤ xs.length ∧ acc.length ≤ i ∧ m = xs.length - i ∧ lcLoop (lcBody cl elt t cond vs) (xs.drop i) en acc = some fin,
      ⟨xs.length, e2, [], [], (Post.refl E2).ext (Ext.new hD), upd_same, by rw [reps_nil], Nat.zero_le _, Nat.zero_le _, rfl, by simpa using ev2⟩, ?_⟩
    rintro i m H' ⟨en, acc, accv, P, hl, hr, hi, ha, hm, hev⟩
    have kp : Kp H1 H' := P.fr.kp E2
    by_cases hlt : i < xs.length
    · right
      refine ⟨wk.go i H' kp hlt, _, fun H'' h => ⟨m - 1, by omega, h⟩, fun x H2 hy => ?_⟩
      obtain ⟨ext, d, hd, rd⟩ := wk.yld i H' x H2 kp hlt hy
      have hdrop : xs.drop i = d :: xs.drop (i + 1) := by
        have : xs[i] = d := by
          rw [List.getElem?_eq_getElem hlt] at hd
          exact Option.some.inj hd
        rw [← this]
        exact List.drop_eq_getElem_cons hlt
      rw [hdrop] at hev
      unfold lcLoop at hev
      -- what the turn gives
      cases hb : lcBody cl elt t cond vs d en with
      | none => rw [hb] at hev; cases hev
      | some res =>
        rw [hb] at hev
        have hb' := hb
        unfold lcBody at hb'
        split at hb'
        · rename_i e3 hbind
          obtain ⟨b, e4, evT, hb'⟩ := bindB_some' hb'
          refine ⟨en, d, e3, P.ok.ext ext, rd, hbind, fun σ2 E3 off => ⟨wipe_off off hv, ?_⟩⟩
          have sub3 : ∀ a, MutAt e3 σ2 a → MutAt en (wipe σ vs) a := fun a ⟨k, s, f1, f2, f3⟩ => by
            obtain ⟨g1, g2⟩ := bindTg_old hbind k s f1 f2
            rw [off.2 k g2] at f3
            exact ⟨k, s, g1, f2, f3⟩
          have hl2 : H2 Dl = some (.lst accv) := ext _ _ hl
          have hσ2 : wipe σ2 vs = wipe σ vs := wipe_off off hv
          refine ⟨e3, b, e4, E3, evT, fun H3 p3 => ?_⟩
          have hl3 : H3 Dl = some (.lst accv) := p3.fr.keep _ _ hl2 (nD fun a z => P.mut (sub3 a z))
          have kp3 : Kp H' H3 := ext.kp.trans (p3.fr.kp E3)
          -- the heap relation up to here
          have fr3 : ∀ a o, H1 a = some o → ¬ MutAt e2 (wipe σ vs) a → H3 a = some o := fun a o h n => p3.fr.keep a o (ext a o (P.fr.keep a o h n)) fun z => n (P.mut (sub3 a z))
          have trk3 : ∀ a, H3 a = none → H1 a = none := fun a h => P.fr.trk a (ext.none (p3.fr.trk a h))
          have idx3 : ∀ (k : Nat) (s : Slot), e4[k]? = some s → s.isMut = true → ∃ s0, e2[k]? = some s0 ∧ s0.isMut = true := fun k s f1 f2 => by
            obtain ⟨s1, g1, g2⟩ := p3.sub k s f1 f2
            exact P.sub k s1 (bindTg_old hbind k s1 g1 g2).1 g2
          cases b with
          | true =>
            simp only [if_true] at hb' ⊢
            obtain ⟨s5, d5, e5, ev5, hd5, hb'⟩ := bindV_some hb'
            obtain ⟨e6, hw6, h6⟩ := map_some' hb'
            cases h6
            refine ⟨e4, s5, e5, d5, p3.ok, ev5, hd5, fun y H4 p4 ry => ?_⟩
            have hl4 : H4 Dl = some (.lst accv) := p4.fr.keep _ _ hl3 (nD fun a z => P.mut (sub3 a (p3.mut z)))
            have kp4 : Kp H' H4 := kp3.trans (p4.fr.kp p3.ok)
            obtain ⟨E6, old6⟩ := wipe_ok p4.ok hw6
            rw [hσ2] at E6
            have idx6 : ∀ (k : Nat) (s : Slot), e6[k]? = some s → s.isMut = true → ∃ s0, e2[k]? = some s0 ∧ s0.isMut = true := fun k s f1 f2 => by
              obtain ⟨g1, _⟩ := old6 k s f1 f2
              obtain ⟨s1, g2, g3⟩ := p4.sub k s g1 f2
              exact idx3 k s1 g2 g3
            have nD6 : ¬ MutAt e6 (wipe σ vs) Dl := nD fun a ⟨k, s, f1, f2, f3⟩ => by
              obtain ⟨s0, g1, g2⟩ := idx6 k s f1 f2
              exact ⟨k, s0, g1, g2, f3⟩
            have hlen2 := hr.length
            refine ⟨accv, hl4, by omega, e6, acc ++ [d5], accv ++ [y], ⟨E6.other hl4 nD6 h0, ⟨fun a o h n => ?_, fun a h => ?_⟩, idx6⟩, upd_same, ?_, by omega, by simp; omega, by omega, hev⟩
            · rw [upd_ne (fun z => by rw [z, hD] at h; cases h)]
              exact p4.fr.keep a o (fr3 a o h n) fun z => n (P.mut (sub3 a (p3.mut z)))
            · exact trk3 a (p4.fr.trk a (upd_trk h))
            · have k5 : Kp H4 (upd H4 Dl (.lst (accv ++ [y]))) := Kp.put hl4
              exact ((hr.keep kp4).keep k5).append (reps_cons.mpr ⟨y, [], rfl, ry.keep k5, by rw [reps_nil]⟩)
          | false =>
            simp only [Bool.false_eq_true, if_false] at hb' ⊢
            obtain ⟨e6, hw6, h6⟩ := map_some' hb'
            cases h6
            obtain ⟨E6, old6⟩ := wipe_ok p3.ok hw6
            rw [hσ2] at E6
            have idx6 : ∀ (k : Nat) (s : Slot), e6[k]? = some s → s.isMut = true → ∃ s0, e2[k]? = some s0 ∧ s0.isMut = true := fun k s f1 f2 => idx3 k s (old6 k s f1 f2).1 f2
            exact ⟨e6, acc, accv, ⟨E6, ⟨fr3, trk3⟩, idx6⟩, hl3, hr.keep kp3, by omega, by omega, by omega, hev⟩
        · cases hb'
    · left
      have hi' : i = xs.length := by omega
      subst hi'
      refine ⟨wk.stop H' kp, ?_⟩
      rw [List.drop_length] at hev
      unfold lcLoop at hev
      cases hev
      refine q (.ref Dl) H' (p1.trans (restore_ok p1.ok hw P)) ⟨Dl, accv, rfl, p1.fr.trk _ hD, hl, hr⟩
  · cases ev
theorem ts_nil {b : Expr} : PTs X [] (tT G cl (.cst (.bl true))) := ⟨fun pins s σ H Q I ⟨env, b, env', E, ev, q⟩ => pts_nil.run pins s σ H Q I (by
  rw [evalT] at ev
  cases ev
  exact q H (Post.refl E))⟩
end
end Pi

-- PiStmt
set_option maxHeartbeats 1000000
namespace Pi
open PySem PySem.Spec PyProof.Rows L2
def FlOk (G : Gh) (H : Hp) (D : Ends) : Flo → Prop
  | .nx e => ∀ σ' H', EnvOk G e σ' H' → Kp H H' → D.nx σ' H'
  | .rt r e => ∀ v σ' H', EnvOk G e σ' H' → RetOk G.toRc G.H0 H' r v → D.rt v H'
  | .bk e => ∀ σ' H', EnvOk G e σ' H' → Kp H H' → D.bk σ' H'
  | .ct e => ∀ σ' H', EnvOk G e σ' H' → Kp H H' → D.ct σ' H'
theorem FlOk.mono {G : Gh} {H H1 : Hp} {D : Ends} {f : Flo} (h : FlOk G H D f) (k : Kp H H1) : FlOk G H1 D f := by
  cases f with
  | nx e => exact fun σ' H' E k' => h σ' H' E (k.trans k')
  | rt r e => exact fun v σ' H' E r => h v σ' H' E r
  | bk e => exact fun σ' H' E k' => h σ' H' E (k.trans k')
  | ct e => exact fun σ' H' E k' => h σ' H' E (k.trans k')
section
variable {X : Cx} {G : Gh} {cl : Oracle} {L : Nat}
def tS (G : Gh) (cl : Oracle) (L : Nat) (c : CS) : TS := fun D σ H => ∃ env f, EnvOk G env σ H ∧ evalS cl L c env = some f ∧ FlOk G H D f
def tSs (G : Gh) (cl : Oracle) (L : Nat) (c : CSs) : TS := fun D σ H => ∃ env f, EnvOk G env σ H ∧ evalSs cl L c env = some f ∧ FlOk G H D f
theorem ps_imp {st : Stmt} {t t' : TS} (h : PS X st t) (f : ∀ D σ H, t' D σ H → t D σ H) : PS X st t' := ⟨fun pins s σ H D I q => h.run pins s σ H D I (f D σ H q)⟩
theorem pss_imp {st : List Stmt} {t t' : TS} (h : PSs X st t) (f : ∀ D σ H, t' D σ H → t D σ H) : PSs X st t' := ⟨fun pins s σ H D I q => h.run pins s σ H D I (f D σ H q)⟩
theorem ss_nil : PSs X [] (tSs G cl L .nil) := pss_imp pss_nil fun D σ H ⟨env, f, E, ev, q⟩ => by
  rw [evalSs] at ev
  cases ev
  exact q σ H E (Kp.refl H)
theorem ss_cons {st : Stmt} {rest : List Stmt} {c : CS} {cs : CSs} (h1 : PS X st (tS G cl L c)) (h2 : PSs X rest (tSs G cl L cs)) : PSs X (st :: rest) (tSs G cl L (.cons c cs)) :=
  pss_imp (pss_cons h1 h2) fun D σ H ⟨env, f, E, ev, q⟩ => by
    rw [evalSs] at ev
    cases h : evalS cl L c env with
    | none => rw [h] at ev; cases ev
    | some g =>
      rw [h] at ev
      cases g with
      | nx e1 => exact ⟨env, .nx e1, E, h, fun σ' H' E' k => ⟨e1, f, E', ev, q.mono k⟩⟩
      | rt r e1 => cases ev; exact ⟨env, _, E, h, q⟩
      | bk e1 => cases ev; exact ⟨env, _, E, h, q⟩
      | ct e1 => cases ev; exact ⟨env, _, E, h, q⟩
theorem s_pass {pos : Pos} : PS X (.Pass pos) (tS G cl L .pass) := ps_imp ps_pass fun D σ H ⟨env, f, E, ev, q⟩ => by
  rw [evalS] at ev
  cases ev
  exact q σ H E (Kp.refl H)
theorem s_brk {pos : Pos} : PS X (.Break pos) (tS G cl L .brk) := ps_imp ps_break fun D σ H ⟨env, f, E, ev, q⟩ => by
  rw [evalS] at ev
  cases ev
  exact q σ H E (Kp.refl H)
theorem s_cnt {pos : Pos} : PS X (.Continue pos) (tS G cl L .cnt) := ps_imp ps_continue fun D σ H ⟨env, f, E, ev, q⟩ => by
  rw [evalS] at ev
  cases ev
  exact q σ H E (Kp.refl H)
theorem s_raise {st : Stmt} : PS X st (tS G cl L .raise) := ps_imp ps_never fun D σ H ⟨env, f, E, ev, q⟩ => by
  rw [evalS] at ev
  cases ev
theorem ret_slot {env env1 : En} {σ : Sg} {H H' : Hp} {s : Slot} {v : V} (E : EnvOk G env σ H) (r : SlotRep G H H' s v) : RetOk G.toRc G.H0 H' s v := by
  cases s with
  | val d => exact r
  | own ds =>
    obtain ⟨a, xs, e, hn, hl, rr⟩ := r
    exact ⟨a, xs, e, E.fresh hn, hl, rr⟩
  | nil => exact r
  | io _ => exact r
theorem s_ret {e : Expr} {c : CE} {pos : Pos} (he : PE X e (tE G cl c)) : PS X (.Return (some e) pos) (tS G cl L (.ret c)) :=
  ps_imp (ps_ret he) fun D σ H ⟨env, f, E, ev, q⟩ => by
    rw [evalS] at ev
    split at ev
    · rename_i s e1 h1
      cases ev
      exact ⟨env, s, e1, E, h1, fun v H' p r => q v σ H' p.ok (ret_slot (env1 := env) E r)⟩
    · cases ev
theorem drop_slot {env : En} {σ : Sg} {H : Hp} {i : Nat} {ds : List D} (E : EnvOk G env σ H) (h : env[i]? = some (.own ds)) : EnvOk G (env.set i .nil) σ H := by
  have hi := (List.getElem?_eq_some_iff.mp h).1
  have old : ∀ (j : Nat) (s : Slot), (env.set i .nil)[j]? = some s → s = .nil ∨ env[j]? = some s := fun j s e => by
    by_cases hj : j = i
    · subst hj
      rw [List.getElem?_set_self hi] at e
      exact .inl (Option.some.inj e).symm
    · rw [List.getElem?_set_ne (Ne.symm hj)] at e
      exact .inr e
  refine ⟨by rw [List.length_set]; exact E.len, fun j s e => ?_, fun j k s t a e1 e2 m1 m2 => ?_, E.fr, fun p hp => ?_⟩
  · rcases old j s e with z | z
    · subst z; trivial
    · exact E.slot j s z
  · rcases old j s e1 with z | z
    · subst z; cases m1
    · rcases old k t e2 with w | w
      · subst w; cases m2
      · exact E.sep j k s t a z w m1 m2
  · obtain ⟨es, e, q⟩ := E.iok p hp
    have hj : p.1 ≠ i := fun z => by rw [z, h] at e; cases e
    exact ⟨es, by rw [List.getElem?_set_ne (Ne.symm hj)]; exact e, q⟩
theorem s_retv {e : Expr} {i : Nat} {pos : Pos} (he : PE X e (tVar i)) : PS X (.Return (some e) pos) (tS G cl L (.retv i)) :=
  ps_imp (ps_ret he) fun D σ H ⟨env, f, E, ev, q⟩ => by
    rw [evalS] at ev
    split at ev
    · rename_i d h1
      cases ev
      obtain ⟨v, e1, r⟩ := E.slot i _ h1
      exact ⟨v, e1, q v σ H E r⟩
    · rename_i ds h1
      cases ev
      obtain ⟨a, xs, e1, ha, r, h0⟩ := E.slot i _ h1
      exact ⟨.ref a, e1, q _ σ H (drop_slot E h1) ⟨a, xs, rfl, h0, ha, r⟩⟩
    · cases ev
theorem s_ret0 {pos : Pos} : PS X (.Return none pos) (tS G cl L .ret0) := ps_imp ps_retN fun D σ H ⟨env, f, E, ev, q⟩ => by
  rw [evalS] at ev
  cases ev
  exact q .non σ H E (show Rep G.toRc H .non .non from rep_non.mpr rfl)
theorem s_drop {e : Expr} {c : CE} {pos : Pos} (he : PE X e (tE G cl c)) (hs : swapsWith e none pos.line X.env = pure false) : PS X (.Expr e pos) (tS G cl L (.drop c)) :=
  ps_imp (ps_expr he hs) fun D σ H ⟨env, f, E, ev, q⟩ => by
    rw [evalS] at ev
    split at ev
    · rename_i s e1 h1
      cases ev
      exact ⟨env, s, e1, E, h1, fun v H' p r => q σ H' p.ok (p.fr.kp E)⟩
    · cases ev
theorem s_ife {c : Expr} {a b : List Stmt} {cc : CE} {ca cb : CSs} {pos : Pos} (hc : PT X c (tT G cl cc)) (ha : PSs X a (tSs G cl L ca)) (hb : PSs X b (tSs G cl L cb)) : PS X (.If c a b pos) (tS G cl L (.ife cc ca cb)) :=
  ps_imp (ps_if hc ha hb) fun D σ H ⟨env, f, E, ev, q⟩ => by
    rw [evalS] at ev
    obtain ⟨x, e1, ev1, ev⟩ := bindB_some' ev
    refine ⟨env, x, e1, E, ev1, fun H1 p1 => ?_⟩
    cases x with
    | true => exact ⟨e1, f, p1.ok, ev, q.mono (p1.fr.kp E)⟩
    | false => exact ⟨e1, f, p1.ok, ev, q.mono (p1.fr.kp E)⟩
theorem set_slot {env e1 e2 : En} {σ : Sg} {H H' : Hp} {i : Nat} {s : Slot} {v : V} (E : EnvOk G env σ H) (p : Post G env σ H e1 H') (r : SlotRep G H H' s v) (h : setSlot e1 i s = some e2) : EnvOk G e2 (σ.set i (some v)) H' := by
  cases s with
  | val d => exact set_val p.ok h r
  | own ds =>
    obtain ⟨a, xs, rfl, hn, hl, rr⟩ := r
    exact set_own p.ok h hl rr (E.fresh hn) fun m => by
      obtain ⟨ys, z⟩ := (p.mut m).lst E
      rw [hn] at z; cases z
  | nil => exact r.elim
  | io _ => exact r.elim
theorem s_asg {x : Str} {e : Expr} {i : Nat} {c : CE} {pos' pos : Pos} (base : PS X (.Assign [.Name x pos'] e pos) (tAsg (tE G cl c) (gName i))) : PS X (.Assign [.Name x pos'] e pos) (tS G cl L (.asg (.nm i) c)) :=
  ps_imp base fun D σ H ⟨env, f, E, ev, q⟩ => by
    rw [evalS] at ev
    split at ev
    · rename_i s e1 h1
      obtain ⟨e2, h2, h3⟩ := map_some' ev
      cases h3
      exact ⟨env, s, e1, E, h1, fun v H' p r => q _ H' (set_slot E p r h2) (p.fr.kp E)⟩
    · cases ev
theorem s_tup {tg e : Expr} {is : List Nat} {c : CE} {pos : Pos} (he : PE X e (tE G cl c)) (hg : PG X tg (tG G (.tp is))) (hs : swapsWithSole [tg] e pos.line X.env = pure false) (hw : swappedStores [tg] e X.env = pure none) (h1 : (assignEach [tg] X.env).map (·.2) = [assign tg X.env]) :
    PS X (.Assign [tg] e pos) (tS G cl L (.asg (.tp is) c)) :=
  ps_imp (ps_asg (pe_val he) hg hs hw h1) fun D σ H ⟨env, f, E, ev, q⟩ => by
    rw [evalS] at ev
    obtain ⟨s1, x, e1, ev1, d1, ev⟩ := bindV_some ev
    obtain ⟨e2, h2, h3⟩ := map_some' ev
    cases h3
    exact ⟨env, s1, e1, x, E, ev1, d1, fun v H1 p1 r1 => ⟨e1, x, e2, p1.ok, r1, h2, fun σ' E' off => q σ' H1 E' (p1.fr.kp E)⟩⟩

def setsσ (σ : Sg) : List Nat → List V → Sg
  | i :: is, v :: vs => setsσ (σ.set i (some v)) is vs
  | _, _ => σ
def SlsOk (G : Gh) (H H' : Hp) : List Slot → List V → Prop
  | [], [] => True
  | s :: ss, v :: vs => SlotRep G H H' s v ∧ SlsOk G H H' ss vs
  | _, _ => False
def tSl (G : Gh) (cl : Oracle) (c : CEs) : TA := fun σ H Q => ∃ env ss env', EnvOk G env σ H ∧ evalSl cl c env = some (ss, env') ∧ ∀ vs H', Post G env σ H env' H' → SlsOk G H H' ss vs → (ownsOf ss vs).Nodup → Q vs H'
theorem l_nil : PA X [] (tSl G cl .nil) := pa_imp pa_nil fun σ H Q ⟨env, ds, env', E, ev, q⟩ => by
  rw [evalSl] at ev
  cases ev
  exact q [] H (Post.refl E) trivial List.nodup_nil
theorem sls_own {H H' : Hp} : ∀ {ss : List Slot} {vs : List V} {a : Addr}, SlsOk G H H' ss vs → a ∈ ownsOf ss vs → H a = none
  | [], [], _, _, m => by simp [ownsOf] at m
  | [], _ :: _, _, h, _ => h.elim
  | _ :: _, [], _, h, _ => h.elim
  | s :: ss, v :: vs, a, h, m => by
    cases s with
    | own ds =>
      obtain ⟨⟨b, xs, rfl, hn, _⟩, h2⟩ := h
      rcases List.mem_cons.mp (show a ∈ b :: ownsOf ss vs from m) with rfl | m
      · exact hn
      · exact sls_own h2 m
    | val d => exact sls_own h.2 (by cases v <;> exact m)
    | nil => exact h.1.elim
    | io _ => exact h.1.elim
theorem sls_keep {H H1 H' : Hp} (f : ∀ a, H1 a = none → H a = none) : ∀ {ss : List Slot} {vs : List V}, SlsOk G H1 H' ss vs → SlsOk G H H' ss vs
  | [], [], _ => trivial
  | [], _ :: _, h => h.elim
  | _ :: _, [], h => h.elim
  | s :: ss, v :: vs, h => ⟨by
    cases s with
    | own ds =>
      obtain ⟨b, xs, e, hn, r⟩ := h.1
      exact ⟨b, xs, e, f b hn, r⟩
    | val d => exact h.1
    | nil => exact h.1
    | io _ => exact h.1, sls_keep f h.2⟩
theorem l_cons {e : Expr} {es : List Expr} {c : CE} {cs : CEs} (hs : isStar e = false) (he : PE X e (tE G cl c)) (hr : PA X es (tSl G cl cs)) : PA X (e :: es) (tSl G cl (.cons c cs)) :=
  pa_imp (pa_cons he hr (star_one hs)) fun σ H Q ⟨env, ds, env', E, ev, q⟩ => by
    rw [evalSl] at ev
    split at ev
    · rename_i s e1 h1
      obtain ⟨xs, e2, ev2, ev⟩ := bindSs_some' ev
      cases ev
      refine ⟨env, s, e1, E, h1, fun v H1 p1 r1 => ?_⟩
      refine ⟨e1, xs, _, p1.ok, ev2, fun vs H2 p2 r2 nd => ?_⟩
      refine q _ H2 (p1.trans p2) ⟨?_, sls_keep p1.fr.trk r2⟩ ?_
      · cases s with
        | own ds =>
          obtain ⟨a, ys, ea, hn, hl, rr⟩ := r1
          refine ⟨a, ys, ea, hn, p2.fr.keep a _ hl fun m => ?_, rr.keep (p2.fr.kp p1.ok)⟩
          obtain ⟨zs, z⟩ := (p1.mut m).lst E
          rw [hn] at z; cases z
        | val d => exact r1.keep (p2.fr.kp p1.ok)
        | nil => exact r1
        | io _ => exact r1
      · cases s with
        | own ds =>
          obtain ⟨a, ys, rfl, hn, hl, rr⟩ := r1
          refine List.nodup_cons.mpr ⟨fun m => ?_, nd⟩
          have := sls_own r2 m
          rw [hl] at this; cases this
        | val d => cases v <;> exact nd
        | nil => exact r1.elim
        | io _ => exact r1.elim
    · cases ev
theorem sets_ok : ∀ {is : List Nat} {ss : List Slot} {vs : List V} {e1 e2 : En} {τ : Sg} {H H' : Hp}, EnvOk G e1 τ H' → (∀ a, H a = none → G.H0 a = none) → (∀ a ∈ ownsOf ss vs, ¬ MutAt e1 τ a) → (ownsOf ss vs).Nodup → SlsOk G H H' ss vs → setSlots e1 is ss = some e2 → EnvOk G e2 (setsσ τ is vs) H'
  | [], [], [], _, _, _, _, _, E, _, _, _, _, h => by cases h; exact E
  | [], [], _ :: _, _, _, _, _, _, _, _, _, _, r, _ => r.elim
  | [], _ :: _, _, _, _, _, _, _, _, _, _, _, _, h => by cases h
  | _ :: _, [], _, _, _, _, _, _, _, _, _, _, _, h => by cases h
  | _ :: _, _ :: _, [], _, _, _, _, _, _, _, _, _, r, _ => r.elim
  | i :: is, s :: ss, v :: vs, e1, e2, τ, H, H', E, h0, hm, nd, r, h => by
    unfold setSlots at h
    split at h
    · rename_i e3 h3
      obtain ⟨w1, w2, rfl⟩ := setSlot_some h3
      cases s with
      | val d =>
        have E3 := set_val E h3 r.1
        show EnvOk G e2 (setsσ (τ.set i (some v)) is vs) H'
        refine sets_ok E3 h0 (fun a ha m => ?_) (by cases v <;> exact nd) r.2 h
        obtain ⟨k, t, f1, f2, f3⟩ := m
        have hk : k ≠ i := fun z => by
          subst z
          rw [List.getElem?_set_self w1] at f1
          cases f1
          cases f2
        rw [List.getElem?_set_ne (Ne.symm hk)] at f1 f3
        exact hm a (by cases v <;> exact ha) ⟨k, t, f1, f2, f3⟩
      | own ds =>
        obtain ⟨⟨a, xs, rfl, hn, hl, rr⟩, r2⟩ := r
        have nd' : (a :: ownsOf ss vs).Nodup := nd
        obtain ⟨n1, n2⟩ := List.nodup_cons.mp nd'
        have E3 := set_own E h3 hl rr (h0 a hn) (hm a List.mem_cons_self)
        show EnvOk G e2 (setsσ (τ.set i (some (V.ref a))) is vs) H'
        refine sets_ok E3 h0 (fun b hb m => ?_) n2 r2 h
        obtain ⟨k, t, f1, f2, f3⟩ := m
        by_cases hk : k = i
        · subst hk
          rw [List.getElem?_set_self (by rw [← E.len]; exact w1)] at f3
          cases f3
          exact n1 hb
        · rw [List.getElem?_set_ne (Ne.symm hk)] at f1 f3
          exact hm b (List.mem_cons_of_mem _ hb) ⟨k, t, f1, f2, f3⟩
      | nil => exact r.1.elim
      | io _ => exact r.1.elim
    · cases h
theorem sls_len {H H' : Hp} : ∀ {ss : List Slot} {vs : List V}, SlsOk G H H' ss vs → vs.length = ss.length
  | [], [], _ => rfl
  | [], _ :: _, h => h.elim
  | _ :: _, [], h => h.elim
  | s :: ss, v :: vs, h => by simp [sls_len h.2]
theorem setSlots_len : ∀ {is : List Nat} {ss : List Slot} {e1 e2 : En}, setSlots e1 is ss = some e2 → is.length = ss.length
  | [], [], _, _, _ => rfl
  | [], _ :: _, _, _, h => by cases h
  | _ :: _, [], _, _, h => by cases h
  | i :: is, s :: ss, e1, e2, h => by
    unfold setSlots at h
    split at h
    · simp [setSlots_len h]
    · cases h
theorem asl_reads {is : List Nat} {cs : CEs} {D : Ends} {σ : Sg} {H : Hp} (h : tS G cl L (.asl is cs) D σ H) : tSl G cl cs σ H fun vs H1 => vs.length = is.length ∧ D.nx (setsσ σ is vs) H1 := by
  obtain ⟨env, f, E, ev, q⟩ := h
  rw [evalS] at ev
  obtain ⟨ss, e1, ev1, ev⟩ := bindSs_some' ev
  obtain ⟨e2, h2, h3⟩ := map_some' ev
  cases h3
  refine ⟨env, ss, e1, E, ev1, fun vs H1 p r nd => ⟨by rw [sls_len r, setSlots_len h2], q _ H1 (sets_ok p.ok (fun a hn => E.fresh hn) (fun a ha m => ?_) nd r h2) (p.fr.kp E)⟩⟩
  obtain ⟨ys, z⟩ := (p.mut m).lst E
  rw [sls_own r ha] at z; cases z
theorem s_par {i j : Nat} {tg v : Expr} {cs : CEs} {pos : Pos} (base : PS X (.Assign [tg] v pos) (tPar i j (tSl G cl cs))) : PS X (.Assign [tg] v pos) (tS G cl L (.asl [i, j] cs)) :=
  ps_imp base fun D σ H h => by
    obtain ⟨env, ss, e1, E, ev, q⟩ := asl_reads h
    refine ⟨env, ss, e1, E, ev, fun vs H1 p r nd => ?_⟩
    obtain ⟨hl, q2⟩ := q vs H1 p r nd
    match vs, hl with
    | [a, b], _ => exact ⟨a, b, rfl, q2⟩
theorem s_par3 {i j k : Nat} {tg v : Expr} {cs : CEs} {pos : Pos} (base : PS X (.Assign [tg] v pos) (tPar3 i j k (tSl G cl cs))) : PS X (.Assign [tg] v pos) (tS G cl L (.asl [i, j, k] cs)) :=
  ps_imp base fun D σ H h => by
    obtain ⟨env, ss, e1, E, ev, q⟩ := asl_reads h
    refine ⟨env, ss, e1, E, ev, fun vs H1 p r nd => ?_⟩
    obtain ⟨hl, q2⟩ := q vs H1 p r nd
    match vs, hl with
    | [a, b, c], _ => exact ⟨a, b, c, rfl, q2⟩
def tGn (is : List Nat) : TGs := fun vs σ H Q => vs.length = is.length ∧ Q (setsσ σ is vs) H
theorem gn_nil : PGs X [] (tGn []) := pgs_imp pgs_nil fun vs σ H Q ⟨l, q⟩ => by
  have : vs = [] := List.eq_nil_of_length_eq_zero l
  subst this
  exact ⟨rfl, q⟩
theorem gn_cons {x : Str} {i : Nat} {is : List Nat} {pos : Pos} {es : List Expr} (h : PG X (.Name x pos) (gName i)) (h2 : PGs X es (tGn is)) : PGs X (.Name x pos :: es) (tGn (i :: is)) :=
  pgs_imp (pgs_cons h h2) fun vs σ H Q ⟨l, q⟩ => by
    cases vs with
    | nil => simp at l
    | cons v vs => exact ⟨v, vs, rfl, by simpa using l, q⟩
theorem s_mul (hK : X.K = G.toRc.K) {is : List Nat} {ts vs : List Expr} {cs : CEs} {k1 k2 : Nat} {p1 p2 pos : Pos} (hc : X.calm = true) (ha : PA X vs (tSl G cl cs)) (hg : PGs X ts (tGn is)) (hn : (assignEach ts X.env).length = is.length) (hst : (assignEach ts X.env).findIdx? (·.1) = none)
    (hs : swapsWithSole [.Tuple ts k1 p1] (.Tuple vs k2 p2) pos.line X.env = pure false) (hw : swappedStores [.Tuple ts k1 p1] (.Tuple vs k2 p2) X.env = pure none) (h1 : (assignEach [.Tuple ts k1 p1] X.env).map (·.2) = [assign (.Tuple ts k1 p1) X.env]) (hz : is.length ≤ sizeLine) :
    PS X (.Assign [.Tuple ts k1 p1] (.Tuple vs k2 p2) pos) (tS G cl L (.asl is cs)) := by
  refine ps_imp (ps_asg (pe_tup ha) (pg_tup hc hg hn hst) hs hw h1) fun D σ H h => ?_
  obtain ⟨env, f, E, ev, q⟩ := h
  rw [evalS] at ev
  obtain ⟨ss, e1, ev1, ev⟩ := bindSs_some' ev
  obtain ⟨e2, h2, h3⟩ := map_some' ev
  cases h3
  refine ⟨env, ss, e1, E, ev1, fun us H1 p r nd => ?_⟩
  have hl : us.length = is.length := by rw [sls_len r, setSlots_len h2]
  refine ⟨by rw [hl]; exact hz, fun t ht => ⟨t, us, rfl, .inl (.inl upd_same), hl, hl, ?_⟩⟩
  have E2 := sets_ok p.ok (fun a hn => E.fresh hn) (fun a ha m => by
    obtain ⟨ys, z⟩ := (p.mut m).lst E
    rw [sls_own r ha] at z; cases z) nd r h2
  exact q _ _ (E2.ext (Ext.new ht)) ((p.fr.kp E).trans (Ext.new ht).kp)

theorem s_setix {o k e : Expr} {i : Nat} {ck ce : CE} {p pos : Pos} (ho : PE X o (tVar i)) (hk : PE X k (tE G cl ck)) (he : PE X e (tE G cl ce)) (base : ∀ {te : TE} {g : TG}, PE X e te → PG X (.Subscript o k p) g → PS X (.Assign [.Subscript o k p] e pos) (tAsg te g))
    (sub : ∀ {to ti : TE} {t : TSet}, PE X o to → PE X k ti → PSet X t → PG X (.Subscript o k p) (gSub to ti t)) : PS X (.Assign [.Subscript o k p] e pos) (tS G cl L (.setix i ck ce)) :=
  ps_imp (base (pe_val he) (sub ho (pe_val hk) set_list)) fun D σ H ⟨env, f, E, ev, q⟩ => by
    rw [evalS] at ev
    obtain ⟨s1, x, e1, ev1, d1, ev⟩ := bindV_some ev
    split at ev
    · rename_i hs
      obtain ⟨d0, hd0⟩ := Option.isSome_iff_exists.mp hs
      obtain ⟨s2, y, e2, ev2, d2, ev⟩ := bindV_some ev
      refine ⟨env, s1, e1, x, E, ev1, d1, fun v H1 p1 r1 => ?_⟩
      obtain ⟨_, a, _, _, _, _, hσ, _, _⟩ := list_at p1.ok hd0
      refine ⟨.ref a, hσ, e1, s2, e2, y, p1.ok, ev2, d2, fun w H2 p2 r2 => ?_⟩
      split at ev
      · rename_i ds n hd
        split at ev
        · rename_i j hj
          obtain ⟨e3, h3, h4⟩ := map_some' ev
          cases h4
          obtain ⟨s3, b, xs, he3, hm3, _, hσ3, hb, rr⟩ := list_at p2.ok hd
          rw [hσ] at hσ3; cases hσ3
          refine ⟨a, xs, n, j, rfl, rep_int.mp r2, hb, by rw [rr.length]; exact hj, ?_⟩
          have pp := put_list p2.ok he3 hm3 hσ h3 (((rr.keep (Kp.put hb)).set j) (((r1.keep (p2.fr.kp p1.ok))).keep (Kp.put hb)))
          exact q σ _ pp.ok (((p1.fr.kp E).trans (p2.fr.kp p1.ok)).trans (pp.fr.kp p2.ok))
        · cases ev
      · cases ev
    · cases ev
theorem s_app {x : Str} {e : Expr} {i : Nat} {c : CE} {p1 ap cp pos : Pos} (hv : PE X (.Name x p1) (tVar i)) (he : PE X e (tE G cl c)) (hst : isStar e = false)
    (base : ∀ {to : TE} {t : TA}, PE X (.Name x p1) to → PA X [e] t → PS X (.Expr (.Call (.Attribute (.Name x p1) "append" ap) [e] [] cp) pos) (tDrop (tBM X.K "list" rAppend to t))) : PS X (.Expr (.Call (.Attribute (.Name x p1) "append" ap) [e] [] cp) pos) (tS G cl L (.app i c)) :=
  ps_imp (base hv (pa_cons (pe_val he) pa_nil (star_one hst))) fun D σ H ⟨env, f, E, ev, q⟩ => by
    rw [evalS] at ev
    split at ev
    · rename_i hs
      obtain ⟨d0, hd0⟩ := Option.isSome_iff_exists.mp hs
      obtain ⟨s1, x, e1, ev1, d1, ev⟩ := bindV_some ev
      obtain ⟨_, a, ys, _, _, _, hσ, ha, _⟩ := list_at E hd0
      refine ⟨.ref a, hσ, .inl ⟨rfl, ys, SqL.of ha⟩, env, s1, e1, x, E, ev1, d1, fun v H1 p1 r1 => ?_⟩
      split at ev
      · rename_i ds hd
        split at ev
        · rename_i hz
          obtain ⟨e3, h3, h4⟩ := map_some' ev
          cases h4
          obtain ⟨s3, b, xs, he3, hm3, _, hσ3, hb, rr⟩ := list_at p1.ok hd
          rw [hσ] at hσ3; cases hσ3
          refine ⟨a, xs, v, rfl, rfl, hb, by rw [rr.length]; exact hz, ?_⟩
          have pp := put_list p1.ok he3 hm3 hσ h3 ((rr.keep (Kp.put hb)).append (reps_cons.mpr ⟨v, [], rfl, r1.keep (Kp.put hb), by rw [reps_nil]⟩))
          exact q σ _ pp.ok ((p1.fr.kp E).trans (pp.fr.kp p1.ok))
        · cases ev
      · cases ev
    · cases ev
theorem s_ext {x : Str} {e : Expr} {i : Nat} {c : CE} {p1 ap cp pos : Pos} (hv : PE X (.Name x p1) (tVar i)) (he : PE X e (tE G cl c)) (hst : isStar e = false)
    (base : ∀ {to : TE} {t : TA}, PE X (.Name x p1) to → PA X [e] t → PS X (.Expr (.Call (.Attribute (.Name x p1) "extend" ap) [e] [] cp) pos) (tDrop (tBM X.K "list" rExtend to t))) : PS X (.Expr (.Call (.Attribute (.Name x p1) "extend" ap) [e] [] cp) pos) (tS G cl L (.ext i c)) :=
  ps_imp (base hv (pa_cons he pa_nil (star_one hst))) fun D σ H ⟨env, f, E, ev, q⟩ => by
    rw [evalS] at ev
    split at ev
    · rename_i hs
      obtain ⟨d0, hd0⟩ := Option.isSome_iff_exists.mp hs
      obtain ⟨_, a, ys, _, _, _, hσ, ha, _⟩ := list_at E hd0
      split at ev
      · rename_i zs e1 ev1
        refine ⟨.ref a, hσ, .inl ⟨rfl, ys, SqL.of ha⟩, env, _, e1, E, ev1, fun v H1 p1 r1 => ?_⟩
        split at ev
        · rename_i ds hd
          split at ev
          · rename_i hz
            obtain ⟨e3, h3, h4⟩ := map_some' ev
            cases h4
            obtain ⟨s3, b, xs, he3, hm3, _, hσ3, hb, rr⟩ := list_at p1.ok hd
            rw [hσ] at hσ3; cases hσ3
            obtain ⟨b2, ws, rfl, hn, hl, rw'⟩ := r1
            refine ⟨a, b2, xs, ws, rfl, rfl, hb, hl, by rw [rr.length, rw'.length]; exact hz, ?_⟩
            have pp := put_list p1.ok he3 hm3 hσ h3 ((rr.keep (Kp.put hb)).append (rw'.keep (Kp.put hb)))
            exact q σ _ pp.ok ((p1.fr.kp E).trans (pp.fr.kp p1.ok))
          · cases ev
        · cases ev
      · cases ev
    · cases ev

theorem s_whl {c : Expr} {body : List Stmt} {cc : CE} {cb : CSs} {pos : Pos} (hp : PassesOwn (model X.prog X.w) X.A X.env X.xe) (hc : PT X c (tT G cl cc)) (hb : PSs X body (tSs G cl L cb)) : PS X (.While c body [] pos) (tS G cl L (.whl cc cb)) :=
  ps_imp (ps_while hp hc hb) fun D σ H ⟨env, f, E, ev, q⟩ => by
    rw [evalS] at ev
    refine ⟨fun m σ' H' => ∃ en, EnvOk G en σ' H' ∧ Kp H H' ∧ whlLoop (evalT cl cc) (evalSs cl L cb) m en = some f, ⟨L, env, E, Kp.refl H, ev⟩, ?_⟩
    rintro m σ' H' ⟨en, E', k, hw⟩
    cases m with
    | zero => cases hw
    | succ n =>
      unfold whlLoop at hw
      split at hw
      · rename_i e1 h1
        refine ⟨en, true, e1, E', h1, fun H1 p1 => ?_⟩
        simp only [if_true]
        have k1 := k.trans (p1.fr.kp E')
        refine ⟨fun σ2 H2 => ∃ en2, EnvOk G en2 σ2 H2 ∧ Kp H H2 ∧ whlLoop (evalT cl cc) (evalSs cl L cb) n en2 = some f, fun σ2 H2 h => ⟨n, by omega, h⟩, ?_⟩
        cases hbd : evalSs cl L cb e1 with
        | none => rw [hbd] at hw; cases hw
        | some g =>
          rw [hbd] at hw
          refine ⟨e1, g, p1.ok, hbd, ?_⟩
          cases g with
          | nx e2 => exact fun σ2 H2 E2 k2 => ⟨e2, E2, k1.trans k2, hw⟩
          | ct e2 => exact fun σ2 H2 E2 k2 => ⟨e2, E2, k1.trans k2, hw⟩
          | bk e2 =>
            cases hw
            exact fun σ2 H2 E2 k2 => q σ2 H2 E2 (k1.trans k2)
          | rt r e2 =>
            cases hw
            exact q
      · rename_i e1 h1
        cases hw
        refine ⟨en, false, e1, E', h1, fun H1 p1 => ?_⟩
        simp only [Bool.false_eq_true, if_false]
        exact q σ' H1 p1.ok (k.trans (p1.fr.kp E'))
      · cases hw
theorem s_for {tg it : Expr} {body : List Stmt} {t : Tg} {ci : CI} {cb : CSs} {pos : Pos} (hp : PassesOwn (model X.prog X.w) X.A X.env X.xe) (hc : X.calm = true) (hi : PI X tg it (tI G cl ci)) (hg : PG X tg (tG G t)) (hb : PSs X body (tSs G cl L cb)) (hs : ∀ x, foldedSetIterable it X.env x = pure x) :
    PS X (.For tg it body [] pos) (tS G cl L (.fr t ci cb)) :=
  ps_imp (ps_for hp hc hi hg hb hs) fun D σ H ⟨env, f, E, ev, q⟩ => by
    rw [evalS] at ev
    obtain ⟨xs, e1, ev1, ev⟩ := bindDs_some' ev
    refine ⟨env, xs, e1, E, ev1, fun J H1 p1 wk hlen => ?_⟩
    have k0 := p1.fr.kp E
    refine ⟨fun i m σ' H' => ∃ en, EnvOk G en σ' H' ∧ Kp H1 H' ∧ i ≤ xs.length ∧ m = xs.length - i ∧ forLoop (bodyAt t fun e => evalSs cl L cb e) (xs.drop i) en = some f,
      ⟨xs.length, e1, p1.ok, Kp.refl H1, Nat.zero_le _, rfl, by simpa using ev⟩, ?_⟩
    rintro i m σ' H' ⟨en, E', k, hi', hm, hw⟩
    by_cases hlt : i < xs.length
    · right
      refine ⟨wk.go i H' k hlt, _, fun σ2 H2 h => ⟨m - 1, by omega, h⟩, fun x H2 hy => ?_⟩
      obtain ⟨ext, d, hd, rd⟩ := wk.yld i H' x H2 k hlt hy
      have hdrop : xs.drop i = d :: xs.drop (i + 1) := by
        have : xs[i] = d := by
          rw [List.getElem?_eq_getElem hlt] at hd
          exact Option.some.inj hd
        rw [← this]
        exact List.drop_eq_getElem_cons hlt
      rw [hdrop] at hw
      unfold forLoop bodyAt at hw
      cases hb : bindTg t d en with
      | none => rw [hb] at hw; cases hw
      | some e2 =>
        rw [hb] at hw
        simp only at hw
        refine ⟨en, d, e2, E'.ext ext, rd, hb, fun σ2 E2 off => ?_⟩
        have k2 := k.trans ext.kp
        cases hbd : evalSs cl L cb e2 with
        | none => rw [hbd] at hw; cases hw
        | some g =>
          rw [hbd] at hw
          refine ⟨e2, g, E2, hbd, ?_⟩
          cases g with
          | nx e3 => exact fun σ3 H3 E3 k3 => ⟨e3, E3, k2.trans k3, by omega, by omega, hw⟩
          | ct e3 => exact fun σ3 H3 E3 k3 => ⟨e3, E3, k2.trans k3, by omega, by omega, hw⟩
          | bk e3 =>
            cases hw
            exact fun σ3 H3 E3 k3 => q σ3 H3 E3 (k0.trans (k2.trans k3))
          | rt r e3 =>
            cases hw
            exact q
    · left
      have hi2 : i = xs.length := by omega
      subst hi2
      rw [List.drop_length] at hw
      unfold forLoop at hw
      cases hw
      exact ⟨wk.stop H' k, q σ' H' E' (k0.trans k)⟩
theorem s_try {body : List Stmt} {h₀ : ExceptHandler} {hs : List ExceptHandler} {cb : CSs} {pos : Pos} (hb : PSs X.nox body (tSs G cl L cb)) : PS X (.Try body (h₀ :: hs) [] [] pos) (tS G cl L (.try_ cb)) :=
  ps_imp (ps_try_thru0 hb) fun D σ H ⟨env, f, E, ev, q⟩ => by
    rw [evalS] at ev
    exact ⟨env, f, E, ev, q⟩
end
end Pi

-- PiComp2
set_option maxHeartbeats 2000000
namespace Pi
open PySem PySem.Spec PyProof.Rows L2

structure Tab where
  fn : Str → Nat → List (Nat × List Bool × List D)
  cst : Str → Option D
  fv : Str → Option Nat

def dbg (x : Str) : Bool := (x == ("__debug__" : Str)) || (x == ("__classdict__" : Str))
def slotOf (N : List Str) (sc : Scope) (x : Str) : Option Nat :=
  if dbg x then none else match sc.names.lookup x with
  | some .local | some .cell | some .free => N.findIdx? (· == x)
  | _ => none
def globOf (sc : Scope) (x : Str) : Bool := !dbg x && (match sc.names.lookup x with | some .globalImplicit => true | _ => false)
def mapEs (f : Expr → Option CE) : List Expr → Option CEs
  | [] => some .nil
  | e :: es => if isStar e then none else match f e, mapEs f es with
    | some c, some cs => some (.cons c cs)
    | _, _ => none
def argOf (f : Expr → Option CE) (sl : Str → Option Nat) (m : Bool) (e : Expr) : Option CE :=
  if m then match e with
    | .Name x _ => (sl x).map .io
    | _ => none
  else if isStar e then none else match f e with
    | some c => if isIo c then none else some c
    | none => none
def mapAs (f : Expr → Option CE) (sl : Str → Option Nat) : List Bool → List Expr → Option CEs
  | _, [] => some .nil
  | [], _ :: _ => none
  | m :: ms, e :: es => match argOf f sl m e, mapAs f sl ms es with
    | some c, some cs => some (.cons c cs)
    | _, _ => none
def bopOf : Operator → Option BOp
  | .Add => some .add | .Sub => some .sub | .Mult => some .mul | .FloorDiv => some .fdiv | .Mod => some .mod | .Pow => some .pow
  | _ => none
def copOf : CmpOp → Option COp
  | .Eq => some .eq | .NotEq => some .ne | .Lt => some .lt | .LtE => some .le | .Gt => some .gt | .GtE => some .ge | .In => some .inn | .NotIn => some .nin
  | _ => none
def biOf (x : Str) : Option BI :=
  if x = "len" then some .len else if x = "abs" then some .abs else if x = "min" then some .min else if x = "max" then some .max else if x = "int" then some .int else
  if x = "sum" then some .sum else if x = "tuple" then some .tuple else if x = "list" then some .list else if x = "all" then some .all else if x = "any" then some .any else
  if x = "repr" then some .repr else none
def tyOf (x : Str) : Option Ty :=
  if x = "int" then some .int else if x = "bool" then some .bool else if x = "str" then some .str else if x = "tuple" then some .tuple else if x = "list" then some .list else none
def ownIx (N : List Str) (sc : Scope) (x : Str) : Option Nat := match sc.names.lookup x with
  | some .local | some .cell => if dbg x then none else N.findIdx? (· == x)
  | _ => none
def nmsOf (N : List Str) (sc : Scope) : List Expr → Option (List Nat)
  | [] => some []
  | .Name x _ :: es => match ownIx N sc x, nmsOf N sc es with
    | some i, some is => some (i :: is)
    | _, _ => none
  | _ :: _ => none
def tgOf (N : List Str) (sc : Scope) : Expr → Option Tg
  | .Name x _ => match ownIx N sc x with
    | some i => some (.nm i)
    | none => none
  | .Tuple es _ _ => match nmsOf N sc es with
    | some is => some (.tp is)
    | none => none
  | _ => none
def ownOf (N : List Str) (scope : Scope) : List (Str × Nat) := scope.names.filterMap fun p => match p.2 with
  | .local | .cell => (N.findIdx? (· == p.1)).map fun i => (p.1, i)
  | _ => none
def noneE : Expr → Bool
  | .Constant .none _ _ => true
  | _ => false
def isM1 : Expr → Bool
  | .UnaryOp .USub (.Constant (.int i) _ _) _ => decide (i = 1)
  | _ => false
def noSet : Expr → Bool
  | .Set .. => false
  | _ => true
def natEq (a b : Nat) : Bool := a == b
section
variable (T : Tab) (N : List Str) (sc : Scope) (f : Expr → Option CE)
def c1 (g : CE → CE) (a : Expr) : Option CE := match f a with
  | some c => some (g c)
  | none => none
def c2 (g : CE → CE → CE) (a b : Expr) : Option CE := match f a, f b with
  | some c, some c' => some (g c c')
  | _, _ => none
def c3 (g : CE → CE → CE → CE) (a b d : Expr) : Option CE := match f a, f b, f d with
  | some c, some c', some c'' => some (g c c' c'')
  | _, _, _ => none
def cName (x : Str) : Option CE := match slotOf N sc x with
  | some i => some (.var i)
  | none => if globOf sc x then match T.cst x with
      | some d => some (.gc x d)
      | none => match T.fv x with
        | some j => some (.gf x j)
        | none => none
    else none
def cConst : Const → Option CE
  | .none => some (.cst .non)
  | .bool b => some (.cst (.bl b))
  | .int i => some (.cst (.int i))
  | .str s => some (.cst (.str s))
  | _ => none
def cUn (op : UnaryOp) (a : Expr) : Option CE := match op with
  | .USub => c1 f .neg a
  | .Not => c1 f .not a
  | _ => none
def cBin (op : Operator) (a b : Expr) : Option CE := match bopOf op with
  | some o => c2 f (.bin o) a b
  | none => none
def cCmp1 (op : CmpOp) (a b : Expr) : Option CE := match op with
  | .Is => if noneE b then c1 f (.isN false) a else none
  | .IsNot => if noneE b then c1 f (.isN true) a else none
  | op => if behindInMarks op b then none else match copOf op with
    | some o => c2 f (.cmp o) a b
    | none => none
def cCmp2 (op op' : CmpOp) (a b c : Expr) : Option CE := if lastMarks [op, op'] [b, c] then none else match copOf op, copOf op' with
  | some o, some o' => c3 f (.chain o o') a b c
  | _, _ => none
def cCompare (a : Expr) (ops : List CmpOp) (bs : List Expr) : Option CE := match ops, bs with
  | [op], [b] => cCmp1 f op a b
  | [op, op'], [b, c] => cCmp2 f op op' a b c
  | _, _ => none
def cBool (op : BoolOp) (es : List Expr) (pos : Pos) : Option CE := match es with
  | [] => none
  | [a] => f a
  | a :: b :: r => match op with
    | .And => c2 f .and a (.BoolOp .And (b :: r) pos)
    | .Or => c2 f .or a (.BoolOp .Or (b :: r) pos)
def slicerOf : Option Expr → Option CE
  | none => some (.cst .non)
  | some e => f e
def cSl (v : Expr) (lo hi : Option Expr) : Option CE := match slicerOf f lo, slicerOf f hi with
  | some l, some h => match v with
    | .Name x _ => match slotOf N sc x with
      | some k => some (.slv k l h)
      | none => match f v with
        | some c => some (.sl c l h)
        | none => none
    | v => match f v with
      | some c => some (.sl c l h)
      | none => none
  | _, _ => none
def cIx (v i : Expr) : Option CE := if noSlice i then match v with
    | .Name x _ => match slotOf N sc x with
      | some k => c1 f (.ixv k) i
      | none => c2 f .ix v i
    | v => c2 f .ix v i
  else none
def cSub (v i : Expr) : Option CE := match i with
  | .Slice none none (some s) _ => if isM1 s then c1 f .rev v else none
  | .Slice lo hi none _ => cSl N sc f v lo hi
  | i => cIx N sc f v i
def tryDef (a : Expr) (r : List Expr) (p : Nat × List Bool × List D) : Option CE := match mapAs f (slotOf N sc) p.2.1 (a :: r) with
  | some cs => if (iosOf cs).Nodup then some (.call p.1 cs p.2.2) else none
  | none => none
def cDef (x : Str) (a : Expr) (r : List Expr) : Option CE := (T.fn x (r.length + 1)).findSome? (tryDef N sc f a r)
def cLen (a : Expr) : Option CE := match a with
  | .Name x _ => match slotOf N sc x with
    | some k => some (.lenv k)
    | none => none
  | _ => none
def cBi (b : BI) (a : Expr) (r : List Expr) : Option CE := match mapEs f (a :: r) with
  | some cs => some (.bi b cs)
  | none => none
def cIsi (a y : Expr) : Option CE := match y with
  | .Name y _ => if globOf sc y && !isStar a then match f a, tyOf y with
      | some c, some t => some (.isi c t)
      | _, _ => none
    else none
  | _ => none
def cFn (x : Str) (a : Expr) (r : List Expr) : Option CE :=
  if x = "isinstance" then match r with
    | [y] => cIsi sc f a y
    | _ => none
  else match biOf x with
    | some b => if x = "len" && r.isEmpty then match cLen N sc a with
        | some c => some c
        | none => cBi f b a r
      else cBi f b a r
    | none => cDef T N sc f x a r
def cMeth (v : Expr) (m : Str) (ap : Pos) (args : List Expr) (cp : Pos) : Option CE := match v, args with
  | .Name x _, [] => if m = "pop" && natEq ap.endLine cp.line then match slotOf N sc x with
      | some k => some (.pop k)
      | none => none
    else none
  | _, _ => none
def cCall (g : Expr) (args : List Expr) (pos : Pos) : Option CE := match g with
  | .Name x _ => if globOf sc x then match args with
      | a :: r => cFn T N sc f x a r
      | [] => none
    else none
  | .Attribute v m ap => cMeth N sc v m ap args pos
  | _ => none
def i1 (g : CE → CI) (a : Expr) : Option CI := match f a with
  | some c => some (g c)
  | none => none
def iRange (args : List Expr) : Option CI := match args with
  | [a] => if isStar a then none else i1 f .rg1 a
  | [a, b] => if isStar a || isStar b then none else match f a, f b with
    | some c, some c' => some (.rg2 c c')
    | _, _ => none
  | [a, b, d] => if isStar a || isStar b || isStar d then none else match f a, f b, f d with
    | some c, some c', some c'' => some (.rg3 c c' c'')
    | _, _, _ => none
  | _ => none
def iterOf (e : Expr) : Option CI := match e with
  | .Call (.Name x p) args [] pos => if x = "range" && globOf sc x then iRange f args else i1 f .sq (.Call (.Name x p) args [] pos)
  | e => if noSet e then i1 f .sq e else none
end
def condOf (f : Expr → Option CE) : List Expr → Option CE
  | [] => some (.cst (.bl true))
  | [c] => f c
  | _ => none
def cLc (N : List Str) (f : Scope → Expr → Option CE) (sc : Scope) (elt : Expr) (scope : Scope) (g : Comprehension) : Option CE := match g with
  | ⟨tg, iter, ifs, k⟩ => if decide (k = 0) && noSet iter && blkC N sc scope (ownOf N scope) then match iterOf sc (f sc) iter, tgOf N scope tg, f (relS scope sc) elt, condOf (f (relS scope sc)) ifs with
    | some ci, some t, some ce, some cc => if t.vars.all (fun j => ((ownOf N scope).map (·.2)).contains j) then some (.lc ce t ci cc ((ownOf N scope).map (·.2))) else none
    | _, _, _, _ => none
  else none

def cmpE (T : Tab) (N : List Str) : Nat → Scope → Expr → Option CE
  | 0, _, _ => none
  | n + 1, sc, e => match e with
    | .Name x _ => cName T N sc x
    | .Constant k _ _ => cConst k
    | .BinOp a op b _ => cBin (cmpE T N n sc) op a b
    | .UnaryOp op a _ => cUn (cmpE T N n sc) op a
    | .Compare a ops bs _ => cCompare (cmpE T N n sc) a ops bs
    | .BoolOp op es pos => cBool (cmpE T N n sc) op es pos
    | .IfExp c a b _ => c3 (cmpE T N n sc) .ife c a b
    | .Tuple es _ _ => match mapEs (cmpE T N n sc) es with
      | some cs => some (.tup cs)
      | none => none
    | .List es _ => match mapEs (cmpE T N n sc) es with
      | some cs => some (.lst cs)
      | none => none
    | .Subscript v i _ => cSub N sc (cmpE T N n sc) v i
    | .Call g args [] pos => cCall T N sc (cmpE T N n sc) g args pos
    | .ListComp elt [g] scope _ => cLc N (cmpE T N n) sc elt scope g
    | _ => none
end Pi

-- PiSound
set_option maxHeartbeats 4000000
namespace Pi
open PySem PySem.Spec PyProof.Rows L2
def freeNames : List Str := ["len", "abs", "min", "max", "int", "sum", "tuple", "list", "all", "any", "repr", "isinstance", "range", "bool", "str", "enumerate", "zip"]
def CallOk (X : Cx) (R : Rc) (cl : Oracle) (x : Str) (j : Nat) (dv : List D) : Prop := ∃ (k : Nat) (fd : FuncData) (ps : List Str) (ds : List Value) (dvs : List V),
  FnOk X.prog X.w X.K X.mg X.base CX0 k (R.fa j) fd ps (spO R cl j) ∧ Room k X.A ∧ X.mg x = some (.ref (R.fa j)) ∧ PySem.W.keepIn X.K (.ref (R.fa j)) = true ∧ Binds X.K fd ps ds ∧ Vals dvs ds ∧ ∀ H, Reps R H dvs dv
structure Ok (T : Tab) (N : List Str) (X : Cx) (R : Rc) (cl : Oracle) (sc : Scope) : Prop where
  nm : X.N = N
  nd : N.Nodup
  sc : X.env.scope = sc
  calm : X.calm = true
  K : X.K = R.K
  un : X.A.units + 64 < cLine
  fns : ∀ (x : Str) (n j : Nat) (ms : List Bool) (dv : List D), (j, ms, dv) ∈ T.fn x n → CallOk X R cl x j dv
  cst : ∀ (x : Str) (d : D), T.cst x = some d → ∃ v u, X.mg x = some u ∧ RelV v u ∧ ∀ H, Rep R H v d
  fv : ∀ (x : Str) (j : Nat), T.fv x = some j → X.mg x = some (.ref (R.fa j))
  free : ∀ x ∈ freeNames, X.mg x = none
section
variable {T : Tab} {N : List Str} {X : Cx} {G : Gh} {cl : Oracle} {sc : Scope}
theorem findIdx_at {x : Str} : ∀ {N : List Str} {i : Nat}, N.findIdx? (· == x) = some i → N[i]? = some x := by
  intro N i h
  rw [List.findIdx?_eq_some_iff_getElem] at h
  obtain ⟨hi, h1, _⟩ := h
  rw [List.getElem?_eq_getElem hi]
  exact congrArg some (eq_of_beq h1)
theorem dbg_f {x : Str} (h : dbg x = false) : (x == ("__debug__" : Str)) = false ∧ (x == ("__classdict__" : Str)) = false := by
  unfold dbg at h
  exact Bool.or_eq_false_iff.mp h
theorem slotOf_at {x : Str} {i : Nat} (h : slotOf N sc x = some i) : N[i]? = some x ∧ (sc.names.lookup x = some .local ∨ sc.names.lookup x = some .cell ∨ sc.names.lookup x = some .free) ∧ dbg x = false := by
  unfold slotOf at h
  split at h
  · cases h
  · rename_i hd
    have hd' : dbg x = false := by simpa using hd
    split at h
    · exact ⟨findIdx_at h, .inl (by assumption), hd'⟩
    · exact ⟨findIdx_at h, .inr (.inl (by assumption)), hd'⟩
    · exact ⟨findIdx_at h, .inr (.inr (by assumption)), hd'⟩
    · cases h
theorem pv_of (O : Ok T N X G.toRc cl sc) {x : Str} {i : Nat} {pos : Pos} (h : slotOf N sc x = some i) : PE X (.Name x pos) (tVar i) := by
  obtain ⟨h1, h2, h3⟩ := slotOf_at h
  obtain ⟨d1, d2⟩ := dbg_f h3
  exact pe_var (by rw [O.nm]; exact h1) (by unfold Vis; rw [O.sc]; exact h2) d1 d2
theorem gl_of (O : Ok T N X G.toRc cl sc) {x : Str} (h : globOf sc x = true) : Gl X x ∧ dbg x = false := by
  unfold globOf at h
  rw [Bool.and_eq_true] at h
  refine ⟨?_, by simpa using h.1⟩
  have h2 := h.2
  split at h2
  · rename_i e
    show X.env.scope.names.lookup x = _
    rw [O.sc]
    exact e
  · cases h2
theorem noT {e : Expr} {c : CE} (h : ∀ env, evalT cl c env = none) : PT X e (tT G cl c) := ⟨fun pins s σ H Q I ⟨env, b, env', E, ev, q⟩ => by
  rw [h env] at ev
  cases ev⟩
theorem pt_any (O : Ok T N X G.toRc cl sc) {e : Expr} {c : CE} (h : PE X e (tE G cl c)) (he : ∀ whole, isTrue e X.env whole = (do let v ← whole; standAt e.pos; holding [v] (truthy v))) (hn : byVal c = true ∨ ∀ env, evalT cl c env = none) : PT X e (tT G cl c) := by
  rcases hn with hn | hn
  · exact t_val O.K hn h he
  · exact noT hn
theorem mapEs_ok {f : Expr → Option CE} (hf : ∀ e c, f e = some c → PE X e (tE G cl c)) : ∀ {es : List Expr} {cs : CEs}, mapEs f es = some cs → PA X es (tDs G cl cs) ∧ es.all (fun e => !isStar e) = true
  | [], cs, h => by cases h; exact ⟨c_nil, rfl⟩
  | e :: es, cs, h => by
    unfold mapEs at h
    split at h
    · cases h
    · rename_i hs
      have hs' : isStar e = false := by simpa using hs
      split at h
      · rename_i c cs' h1 h2
        cases h
        obtain ⟨q1, q2⟩ := mapEs_ok hf h2
        exact ⟨c_cons hs' (hf e c h1) q1, by simp [hs', q2]⟩
      · cases h
theorem mapAs_ok (O : Ok T N X G.toRc cl sc) {f : Expr → Option CE} (hf : ∀ e c, f e = some c → PE X e (tE G cl c)) : ∀ {ms : List Bool} {es : List Expr} {cs : CEs}, mapAs f (slotOf N sc) ms es = some cs → PA X es (tAs G cl cs) ∧ es.all (fun e => !isStar e) = true
  | ms, [], cs, h => by
    have : cs = .nil := by
      rw [mapAs] at h
      cases h
      rfl
    subst this
    exact ⟨a_nil, rfl⟩
  | [], e :: es, cs, h => by
    rw [mapAs] at h
    cases h
  | m :: ms, e :: es, cs, h => by
    rw [mapAs] at h
    split at h
    · rename_i c cs' h1 h2
      cases h
      obtain ⟨q1, q2⟩ := mapAs_ok O hf h2
      unfold argOf at h1
      split at h1
      · split at h1
        · rename_i x p
          rw [Option.map_eq_some_iff] at h1
          obtain ⟨i, h3, h4⟩ := h1
          subst h4
          exact ⟨a_io (pv_of O h3) O.K q1, by rw [List.all_cons, q2]; rfl⟩
        · cases h1
      · split at h1
        · cases h1
        · rename_i hs
          have hs' : isStar e = false := by simpa using hs
          split at h1
          · rename_i c' h3
            split at h1
            · cases h1
            · rename_i hio
              cases h1
              exact ⟨a_cons (by simpa using hio) hs' (hf e _ h3) q1, by simp [hs', q2]⟩
          · cases h1
    · cases h
theorem bop_ok (O : Ok T N X G.toRc cl sc) {op : Operator} {o : BOp} (h : bopOf op = some o) : OpR X (binaryOp op) (rB G.toRc o) := by
  cases op <;> cases h
  · exact rb_add O.K
  · exact rb_sub
  · exact rb_mul O.K
  · exact rb_mod
  · exact rb_pow
  · exact rb_fdiv
theorem cop_ok (O : Ok T N X G.toRc cl sc) {op : CmpOp} {o : COp} (h : copOf op = some o) : OpR X (compareOp op) (rC G.toRc o) := by
  cases op <;> cases h
  · exact rc_eq O.K O.un
  · exact rc_ne O.K O.un
  · exact rc_lt O.K (by have := O.un; omega)
  · exact rc_le
  · exact rc_gt
  · exact rc_ge
  · exact rc_in O.K
  · exact rc_nin O.K
theorem boot_all : bootBuiltins "all" = some (.builtin "all") := by decide +kernel
theorem boot_any : bootBuiltins "any" = some (.builtin "any") := by decide +kernel
theorem boot_abs : bootBuiltins "abs" = some (.builtin "abs") := by decide +kernel
theorem boot_rng : bootBuiltins "range" = some (.type "range") := by decide +kernel
theorem bi_ok (O : Ok T N X G.toRc cl sc) {x : Str} {b : BI} (h : biOf x = some b) (hg : Gl X x) {p pos : Pos} {e : Expr} {es : List Expr} (hs : (e :: es).all (fun e => !isStar e) = true) {t : TA} (ha : PA X (e :: es) t) : PE X (.Call (.Name x p) (e :: es) [] pos) (tCB (rBI G.toRc b) t) := by
  rw [List.all_cons, Bool.and_eq_true] at hs
  have hs1 : isStar e = false := by simpa using hs.1
  have he : starEach (e :: es) X.env = (false, eval e X.env) :: starEach es X.env := star_one hs1
  have hpl : (backTo pos (starEach es X.env)).any (·.1) = false := star_any hs.2
  unfold biOf at h
  by_cases h1 : x = "len"
  · subst h1; rw [if_pos rfl] at h; cases h
    exact pe_callB (bi_len O.K) hg (O.free _ (by decide +kernel)) PySem.boot_len ha (by decide) (by decide) he hpl
  rw [if_neg h1] at h
  by_cases h2 : x = "abs"
  · subst h2; rw [if_pos rfl] at h; cases h
    exact pe_callB bi_abs hg (O.free _ (by decide +kernel)) boot_abs ha (by decide) (by decide) he hpl
  rw [if_neg h2] at h
  by_cases h3 : x = "min"
  · subst h3; rw [if_pos rfl] at h; cases h
    exact pe_callB (bi_min O.K O.calm) hg (O.free _ (by decide +kernel)) PyProof.Rows.boot_min ha (by decide) (by decide) he hpl
  rw [if_neg h3] at h
  by_cases h4 : x = "max"
  · subst h4; rw [if_pos rfl] at h; cases h
    exact pe_callB (bi_max O.K O.calm) hg (O.free _ (by decide +kernel)) PyProof.Rows.boot_max ha (by decide) (by decide) he hpl
  rw [if_neg h4] at h
  by_cases h5 : x = "int"
  · subst h5; rw [if_pos rfl] at h; cases h
    exact pe_callTy bi_int hg (O.free _ (by decide +kernel)) PyProof.Rows.boot_int ha (by decide) (by decide) he hpl
  rw [if_neg h5] at h
  by_cases h6 : x = "sum"
  · subst h6; rw [if_pos rfl] at h; cases h
    exact pe_callB (bi_sum O.K O.calm) hg (O.free _ (by decide +kernel)) PyProof.Rows.boot_sum ha (by decide) (by decide) he hpl
  rw [if_neg h6] at h
  by_cases h7 : x = "tuple"
  · subst h7; rw [if_pos rfl] at h; cases h
    exact pe_callTy (bi_tuple O.K) hg (O.free _ (by decide +kernel)) PyProof.Rows.boot_tuple ha (by decide) (by decide) he hpl
  rw [if_neg h7] at h
  by_cases h8 : x = "list"
  · subst h8; rw [if_pos rfl] at h; cases h
    exact pe_callTy (bi_list O.K) hg (O.free _ (by decide +kernel)) PyProof.Rows.boot_list ha (by decide) (by decide) he hpl
  rw [if_neg h8] at h
  by_cases h9 : x = "all"
  · subst h9; rw [if_pos rfl] at h; cases h
    exact pe_callB (bi_all O.K O.calm) hg (O.free _ (by decide +kernel)) boot_all ha (by decide) (by decide) he hpl
  rw [if_neg h9] at h
  by_cases h10 : x = "any"
  · subst h10; rw [if_pos rfl] at h; cases h
    exact pe_callB (bi_any O.K O.calm) hg (O.free _ (by decide +kernel)) boot_any ha (by decide) (by decide) he hpl
  rw [if_neg h10] at h
  by_cases h11 : x = "repr"
  · subst h11; rw [if_pos rfl] at h; cases h
    exact pe_callB bi_repr hg (O.free _ (by decide +kernel)) PyProof.Rows.boot_repr ha (by decide) (by decide) he hpl
  rw [if_neg h11] at h
  cases h
theorem ty_ok (O : Ok T N X G.toRc cl sc) {y : Str} {t : Ty} (h : tyOf y = some t) (hg : Gl X y) {p : Pos} : PE X (.Name y p) (tC (.ty (tyName t))) := by
  unfold tyOf at h
  by_cases h1 : y = "int"
  · subst h1; rw [if_pos rfl] at h; cases h
    exact pe_bltn hg (O.free _ (by decide +kernel)) PyProof.Rows.boot_int rfl
  rw [if_neg h1] at h
  by_cases h2 : y = "bool"
  · subst h2; rw [if_pos rfl] at h; cases h
    exact pe_bltn hg (O.free _ (by decide +kernel)) PyProof.Rows.boot_bool rfl
  rw [if_neg h2] at h
  by_cases h3 : y = "str"
  · subst h3; rw [if_pos rfl] at h; cases h
    exact pe_bltn hg (O.free _ (by decide +kernel)) PyProof.Rows.boot_str rfl
  rw [if_neg h3] at h
  by_cases h4 : y = "tuple"
  · subst h4; rw [if_pos rfl] at h; cases h
    exact pe_bltn hg (O.free _ (by decide +kernel)) PyProof.Rows.boot_tuple rfl
  rw [if_neg h4] at h
  by_cases h5 : y = "list"
  · subst h5; rw [if_pos rfl] at h; cases h
    exact pe_bltn hg (O.free _ (by decide +kernel)) PyProof.Rows.boot_list rfl
  rw [if_neg h5] at h
  cases h
theorem call_ok (O : Ok T N X G.toRc cl sc) {f : Str} {n j : Nat} {ms : List Bool} {dv : List D} (h : (j, ms, dv) ∈ T.fn f n) (hg : globOf sc f = true) {fc : Expr → Option CE} (hf : ∀ e c, fc e = some c → PE X e (tE G cl c)) {e : Expr} {es : List Expr} {cs : CEs} {p pos : Pos}
    (hm : mapAs fc (slotOf N sc) ms (e :: es) = some cs) (hnd : (iosOf cs).Nodup) : PE X (.Call (.Name f p) (e :: es) [] pos) (tE G cl (.call j cs dv)) := by
  obtain ⟨k, fd, ps, ds, dvs, F, hr, hmg, hk, hb, hd, hreps⟩ := O.fns f n j ms dv h
  obtain ⟨q1, q2⟩ := mapAs_ok O hf hm
  rw [List.all_cons, Bool.and_eq_true] at q2
  obtain ⟨g1, g2⟩ := gl_of O hg
  exact c_call hnd hreps (pe_call F hr g1 hmg hk hb hd pass0 q1 (dbg_f g2).1 (star_one (by simpa using q2.1)) (star_any q2.2))
end
end Pi

-- PiSound2
set_option maxHeartbeats 4000000
namespace Pi
open PySem PySem.Spec PyProof.Rows L2
structure Gd (X : Cx) (G : Gh) (cl : Oracle) (e : Expr) (c : CE) : Prop where
  pe : PE X e (tE G cl c)
  pt : PT X e (tT G cl c)
  pw : ∀ op es pos, e = .BoolOp op es pos → PW X e (tT G cl c)
def noBool : Expr → Bool
  | .BoolOp .. => false
  | _ => true
section
variable {T : Tab} {N : List Str} {X : Cx} {G : Gh} {cl : Oracle} {sc : Scope} {f : Expr → Option CE}
theorem c1_inv {g : CE → CE} {a : Expr} {c : CE} (h : c1 f g a = some c) : ∃ ca, f a = some ca ∧ c = g ca := by
  unfold c1 at h
  split at h
  · cases h; exact ⟨_, by assumption, rfl⟩
  · cases h
theorem c2_inv {g : CE → CE → CE} {a b : Expr} {c : CE} (h : c2 f g a b = some c) : ∃ ca cb, f a = some ca ∧ f b = some cb ∧ c = g ca cb := by
  unfold c2 at h
  split at h
  · cases h; exact ⟨_, _, by assumption, by assumption, rfl⟩
  · cases h
theorem c3_inv {g : CE → CE → CE → CE} {a b d : Expr} {c : CE} (h : c3 f g a b d = some c) : ∃ ca cb cd, f a = some ca ∧ f b = some cb ∧ f d = some cd ∧ c = g ca cb cd := by
  unfold c3 at h
  split at h
  · cases h; exact ⟨_, _, _, by assumption, by assumption, by assumption, rfl⟩
  · cases h
theorem Gd.mk' {e : Expr} {c : CE} (h : PE X e (tE G cl c)) (t : PT X e (tT G cl c)) (hb : noBool e = true := by rfl) : Gd X G cl e c :=
  ⟨h, t, fun op es pos he => by subst he; cases hb⟩
abbrev HF (X : Cx) (G : Gh) (cl : Oracle) (f : Expr → Option CE) : Prop := ∀ e c, f e = some c → Gd X G cl e c
theorem vals {H : HF X G cl f} : ∀ e c, f e = some c → PE X e (tE G cl c) := fun e c h => (H e c h).pe
theorem nameG (O : Ok T N X G.toRc cl sc) {x : Str} {p : Pos} {c : CE} (h : cName T N sc x = some c) : Gd X G cl (.Name x p) c := by
  unfold cName at h
  split at h
  · rename_i i hi
    cases h
    obtain ⟨h1, h2, h3⟩ := slotOf_at hi
    obtain ⟨d1, d2⟩ := dbg_f h3
    exact .mk' (c_var (by rw [O.nm]; exact h1) (by unfold Vis; rw [O.sc]; exact h2) d1 d2) (t_var O.K (pv_of O hi)) rfl
  · split at h
    · rename_i hg
      obtain ⟨g1, g2⟩ := gl_of O hg
      obtain ⟨d1, d2⟩ := dbg_f g2
      split at h
      · rename_i d hd
        cases h
        obtain ⟨v, u, hm, hr, hp⟩ := O.cst _ _ hd
        exact .mk' (c_gc (pe_glob g1 hm hr d1) hp) (noT fun env => by rw [evalT] <;> simp) rfl
      · split at h
        · rename_i j hj
          cases h
          exact .mk' (c_gf (pe_glob (v := .ref (G.fa j)) g1 (O.fv _ _ hj) rfl d1) (fun H => rfl)) (noT fun env => by rw [evalT] <;> simp) rfl
        · cases h
    · cases h
theorem constG {k : Const} {n : Nat} {p : Pos} {c : CE} (h : cConst k = some c) : Gd X G cl (.Constant k n p) c := by
  cases k <;> cases h
  · exact .mk' (c_cst pe_non fun H => rfl) (noT fun env => by rw [evalT] <;> simp)
  · exact .mk' (c_cst pe_bl fun H => rfl) t_true
  · exact .mk' (c_cst pe_int fun H => rfl) (noT fun env => by rw [evalT] <;> simp)
  · exact .mk' (c_cst pe_str fun H => rfl) (noT fun env => by rw [evalT] <;> simp)
theorem unG (O : Ok T N X G.toRc cl sc) (H : HF X G cl f) {op : UnaryOp} {a : Expr} {p : Pos} {c : CE} (h : cUn f op a = some c) : Gd X G cl (.UnaryOp op a p) c := by
  cases op <;> try cases h
  · obtain ⟨ca, h1, rfl⟩ := c1_inv h
    exact .mk' (c_not O.K (H _ _ h1).pe) (t_not (H _ _ h1).pt)
  · obtain ⟨ca, h1, rfl⟩ := c1_inv h
    exact .mk' (c_neg (H _ _ h1).pe) (t_val O.K rfl (c_neg (H _ _ h1).pe) fun _ => rfl)
theorem binG (O : Ok T N X G.toRc cl sc) (H : HF X G cl f) {op : Operator} {a b : Expr} {p : Pos} {c : CE} (h : cBin f op a b = some c) : Gd X G cl (.BinOp a op b p) c := by
  unfold cBin at h
  split at h
  · rename_i o ho
    obtain ⟨ca, cb, h1, h2, rfl⟩ := c2_inv h
    have q := c_bin (pos := p) (bop_ok O ho) (H _ _ h1).pe (H _ _ h2).pe
    exact .mk' q (t_val O.K rfl q fun _ => rfl)
  · cases h
theorem noneE_is {b : Expr} (h : noneE b = true) : ∃ k p, b = .Constant .none k p := by
  unfold noneE at h
  split at h
  · exact ⟨_, _, rfl⟩
  · cases h
theorem cmpG (O : Ok T N X G.toRc cl sc) (H : HF X G cl f) {a : Expr} {ops : List CmpOp} {bs : List Expr} {p : Pos} {c : CE} (h : cCompare f a ops bs = some c) : Gd X G cl (.Compare a ops bs p) c := by
  unfold cCompare at h
  split at h
  · rename_i op b
    unfold cCmp1 at h
    split at h
    · split at h
      · rename_i hn
        obtain ⟨k, p', rfl⟩ := noneE_is hn
        obtain ⟨ca, h1, rfl⟩ := c1_inv h
        exact .mk' (c_isN (H _ _ h1).pe) (t_isN (pt_cmp (pc_isN (pe_val (H _ _ h1).pe)) rfl))
      · cases h
    · split at h
      · rename_i hn
        obtain ⟨k, p', rfl⟩ := noneE_is hn
        obtain ⟨ca, h1, rfl⟩ := c1_inv h
        exact .mk' (c_notN (H _ _ h1).pe) (t_isN (pt_cmp (pc_notN (pe_val (H _ _ h1).pe)) rfl))
      · cases h
    · split at h
      · cases h
      · rename_i hm
        split at h
        · rename_i o ho
          obtain ⟨ca, cb, h1, h2, rfl⟩ := c2_inv h
          have hm' : behindInMarks op b = false := by simpa using hm
          exact .mk' (c_cmp (cop_ok O ho) hm' (H _ _ h1).pe (H _ _ h2).pe) (t_cmp (cop_ok O ho) hm' (H _ _ h1).pe (H _ _ h2).pe)
        · cases h
  · rename_i op op' b d
    unfold cCmp2 at h
    split at h
    · cases h
    · rename_i hm
      have hm' : lastMarks [op, op'] [b, d] = false := by simpa using hm
      split at h
      · rename_i o o' ho ho'
        obtain ⟨ca, cb, cd, h1, h2, h3, rfl⟩ := c3_inv h
        have q := pe_chain (pos := p) (cop_ok O ho) (cop_ok O ho') (pe_val (H _ _ h1).pe) (pe_val (H _ _ h2).pe) (pe_val (H _ _ h3).pe) hm'
        exact .mk' (c_chain (cop_ok O ho) (cop_ok O ho') hm' (H _ _ h1).pe (H _ _ h2).pe (H _ _ h3).pe q) (t_chain (pt_chain (cop_ok O ho) (cop_ok O ho') (pe_val (H _ _ h1).pe) (pe_val (H _ _ h2).pe) (pe_val (H _ _ h3).pe) hm'))
      · cases h
  · cases h
end
end Pi

-- PiSound3
set_option maxHeartbeats 4000000
namespace Pi
open PySem PySem.Spec PyProof.Rows L2
section
variable {T : Tab} {N : List Str} {X : Cx} {G : Gh} {cl : Oracle} {sc : Scope} {f : Expr → Option CE}
theorem boolG (O : Ok T N X G.toRc cl sc) (H : HF X G cl f) {op : BoolOp} {es : List Expr} {p : Pos} {c : CE} (h : cBool f op es p = some c) : Gd X G cl (.BoolOp op es p) c := by
  unfold cBool at h
  split at h
  · cases h
  · rename_i a
    have q : PW X (.BoolOp op [a] p) (tT G cl c) := by
      cases op
      · exact pw_and1 (H _ _ h).pt
      · exact pw_or1 (H _ _ h).pt
    exact ⟨c_one (H _ _ h).pe, q.pt, fun _ _ _ e => by cases e; exact q⟩
  · rename_i a b r
    cases op
    · obtain ⟨ca, cb, h1, h2, rfl⟩ := c2_inv h
      have q := t_and (pos := p) (H _ _ h1).pt ((H _ _ h2).pw _ _ _ rfl)
      exact ⟨c_and (H _ _ h1).pe (H _ _ h2).pe, q.pt, fun _ _ _ e => by cases e; exact q⟩
    · obtain ⟨ca, cb, h1, h2, rfl⟩ := c2_inv h
      have q := t_or (pos := p) (H _ _ h1).pt ((H _ _ h2).pw _ _ _ rfl)
      exact ⟨c_or (H _ _ h1).pe (H _ _ h2).pe, q.pt, fun _ _ _ e => by cases e; exact q⟩
theorem ifeG (H : HF X G cl f) {t a b : Expr} {p : Pos} {c : CE} (h : c3 f .ife t a b = some c) : Gd X G cl (.IfExp t a b p) c := by
  obtain ⟨ca, cb, cd, h1, h2, h3, rfl⟩ := c3_inv h
  exact .mk' (c_ife (H _ _ h1).pt (H _ _ h2).pe (H _ _ h3).pe) (noT fun env => by rw [evalT] <;> simp)
theorem tupG (H : HF X G cl f) {es : List Expr} {k : Nat} {p : Pos} {cs : CEs} (h : mapEs f es = some cs) : Gd X G cl (.Tuple es k p) (.tup cs) :=
  .mk' (c_tup (mapEs_ok (vals (H := H)) h).1) (noT fun env => by rw [evalT] <;> simp)
theorem lstG (H : HF X G cl f) {es : List Expr} {p : Pos} {cs : CEs} (h : mapEs f es = some cs) : Gd X G cl (.List es p) (.lst cs) :=
  .mk' (c_lst (mapEs_ok (vals (H := H)) h).1) (noT fun env => by rw [evalT] <;> simp)
theorem slicer_ok (H : HF X G cl f) {o : Option Expr} {c : CE} (h : slicerOf f o = some c) : PO X o (tP G cl c) := by
  cases o with
  | none => cases h; exact p_none
  | some e => exact p_some (H _ _ h).pe
theorem slG (O : Ok T N X G.toRc cl sc) (H : HF X G cl f) {v : Expr} {lo hi : Option Expr} {p2 p : Pos} {c : CE} (h : cSl N sc f v lo hi = some c) : Gd X G cl (.Subscript v (.Slice lo hi none p2) p) c := by
  unfold cSl at h
  split at h
  · rename_i l hh h1 h2
    have gen : ∀ {v : Expr} {c' : CE}, f v = some c' → Gd X G cl (.Subscript v (.Slice lo hi none p2) p) (.sl c' l hh) := fun hv =>
      .mk' (c_sl O.K (H _ _ hv).pe (slicer_ok H h1) (slicer_ok H h2)) (noT fun env => by rw [evalT] <;> simp)
    split at h
    · split at h
      · rename_i k hk
        cases h
        exact .mk' (c_slv O.K (pv_of O hk) (slicer_ok H h1) (slicer_ok H h2)) (noT fun env => by rw [evalT] <;> simp)
      · split at h
        · cases h
          exact gen (by assumption)
        · cases h
    · split at h
      · cases h
        exact gen (by assumption)
      · cases h
  · cases h
theorem ixG (O : Ok T N X G.toRc cl sc) (H : HF X G cl f) {v i : Expr} {p : Pos} {c : CE} (h : cIx N sc f v i = some c) : Gd X G cl (.Subscript v i p) c := by
  unfold cIx at h
  split at h
  · rename_i hn
    have gen : ∀ {v : Expr} {c : CE}, c2 f .ix v i = some c → Gd X G cl (.Subscript v i p) c := fun hv => by
      obtain ⟨ca, cb, h1, h2, rfl⟩ := c2_inv hv
      have q := c_ix (pos := p) O.K hn (H _ _ h1).pe (H _ _ h2).pe
      exact .mk' q (t_val O.K rfl q fun _ => rfl)
    split at h
    · rename_i x px
      split at h
      · rename_i k hk
        obtain ⟨ca, h1, rfl⟩ := c1_inv h
        have q := c_ixv (pos := p) O.K hn (pv_of (pos := px) O hk) (H _ _ h1).pe
        exact .mk' q (t_val O.K rfl q fun _ => rfl)
      · exact gen h
    · exact gen h
  · cases h
theorem isM1_is {e : Expr} (h : isM1 e = true) : ∃ k p1 p2, e = .UnaryOp .USub (.Constant (.int 1) k p1) p2 := by
  unfold isM1 at h
  split at h
  · have e := of_decide_eq_true h
    subst e
    exact ⟨_, _, _, rfl⟩
  · cases h
theorem subG (O : Ok T N X G.toRc cl sc) (H : HF X G cl f) {v i : Expr} {p : Pos} {c : CE} (h : cSub N sc f v i = some c) : Gd X G cl (.Subscript v i p) c := by
  unfold cSub at h
  split at h
  · split at h
    · rename_i hm
      obtain ⟨k, p1, p2, rfl⟩ := isM1_is hm
      obtain ⟨ca, h1, rfl⟩ := c1_inv h
      exact .mk' (c_rev O.K (H _ _ h1).pe) (noT fun env => by rw [evalT] <;> simp)
    · cases h
  · exact slG O H h
  · exact ixG O H h
theorem biG (O : Ok T N X G.toRc cl sc) (H : HF X G cl f) {x : Str} {b : BI} {p pos : Pos} {a : Expr} {r : List Expr} {c : CE} (hb : biOf x = some b) (hg : Gl X x) (h : cBi f b a r = some c) : Gd X G cl (.Call (.Name x p) (a :: r) [] pos) c := by
  unfold cBi at h
  split at h
  · rename_i cs hm
    cases h
    obtain ⟨q1, q2⟩ := mapEs_ok (vals (H := H)) hm
    have q := c_bi (fun h => bi_ok (p := p) (pos := pos) O hb hg q2 h) q1
    exact .mk' q (t_val O.K rfl q fun _ => rfl)
  · cases h
theorem fnG (O : Ok T N X G.toRc cl sc) (H : HF X G cl f) {x : Str} {p pos : Pos} {a : Expr} {r : List Expr} {c : CE} (hg : globOf sc x = true) (h : cFn T N sc f x a r = some c) : Gd X G cl (.Call (.Name x p) (a :: r) [] pos) c := by
  obtain ⟨g1, g2⟩ := gl_of O hg
  unfold cFn at h
  split at h
  · rename_i hx
    subst hx
    split at h
    · rename_i y
      unfold cIsi at h
      split at h
      · rename_i y p1
        split at h
        · rename_i hc
          rw [Bool.and_eq_true] at hc
          split at h
          · rename_i c' t h1 h2
            cases h
            have hs : isStar a = false := by simpa using hc.2
            have q := c_isi (p := p) (p1 := p1) (pos := pos) O.K (H _ _ h1).pe (ty_ok O h2 (gl_of O hc.1).1) (fun hr ha => pe_callB hr g1 (O.free _ (by decide +kernel)) PyProof.Rows.boot_isinstance ha (by decide) (by decide) (star_one hs) (by rfl)) hs
            exact .mk' q (t_val O.K rfl q fun _ => rfl)
          · cases h
        · cases h
      · cases h
    · cases h
  · split at h
    · rename_i b hb
      split at h
      · rename_i hl
        rw [Bool.and_eq_true] at hl
        obtain ⟨hl1, hl2⟩ := hl
        have hx : x = "len" := by simpa using hl1
        subst hx
        have hr : r = [] := by simpa using hl2
        subst hr
        split at h
        · rename_i c' hc
          cases h
          unfold cLen at hc
          split at hc
          · rename_i y py
            split at hc
            · rename_i k hk
              cases hc
              have q := c_lenv (x := y) (p1 := py) (X := X) (G := G) (cl := cl) (p := p) (pos := pos) O.K (fun {t r} hr hp => pe_callB hr g1 (O.free _ (by decide +kernel)) PySem.boot_len (pa_cons hp pa_nil (by rfl)) (by decide) (by decide) (by rfl) (by rfl)) (pv_of O hk)
              exact .mk' q (noT fun env => by rw [evalT] <;> simp)
            · cases hc
          · cases hc
        · exact biG O H hb g1 h
      · exact biG O H hb g1 h
    · unfold cDef at h
      obtain ⟨pp, hf, h⟩ := List.exists_of_findSome?_eq_some h
      unfold tryDef at h
      split at h
      · rename_i cs hm
        split at h
        · rename_i hnd
          cases h
          have q := call_ok (p := p) (pos := pos) O hf hg (fun e c h => (H e c h).pe) hm hnd
          exact .mk' q (t_val O.K rfl q fun _ => rfl)
        · cases h
      · cases h
theorem callG (O : Ok T N X G.toRc cl sc) (H : HF X G cl f) {g : Expr} {args : List Expr} {pos : Pos} {c : CE} (h : cCall T N sc f g args pos = some c) : Gd X G cl (.Call g args [] pos) c := by
  unfold cCall at h
  split at h
  · split at h
    · rename_i hg
      split at h
      · exact fnG O H hg h
      · cases h
    · cases h
  · unfold cMeth at h
    split at h
    · split at h
      · rename_i hm
        rw [Bool.and_eq_true] at hm
        obtain ⟨hm1, hm2⟩ := hm
        split at h
        · rename_i k hk
          cases h
          have e := of_decide_eq_true hm1
          subst e
          exact .mk' (c_pop (pv_of O hk) (by rfl) hm2) (noT fun env => by rw [evalT] <;> simp)
        · cases h
      · cases h
    · cases h
  · cases h
end
end Pi

-- PiSound4
set_option maxHeartbeats 4000000
namespace Pi
open PySem PySem.Spec PyProof.Rows L2
section
variable {T : Tab} {N : List Str} {X : Cx} {G : Gh} {cl : Oracle} {sc : Scope} {f : Expr → Option CE}
structure Sets (X : Cx) (sc' : Scope) : Prop where
  loc : ∀ x, sc'.names.lookup x = some .local → X.env.scope.names.lookup x = some .local
  cell : ∀ x, sc'.names.lookup x = some .cell → X.env.scope.names.lookup x = some .cell ∧ X.fn x = true
theorem ownIx_ok (hN : X.N.Nodup) {sc' : Scope} (S : Sets X sc') {x : Str} {i : Nat} {p : Pos} (h : ownIx X.N sc' x = some i) : PG X (.Name x p) (gName i) ∧ X.N[i]? = some x := by
  unfold ownIx at h
  split at h
  · split at h
    · cases h
    · rename_i hl _
      exact ⟨pg_name hN (findIdx_at h) (.inl (S.loc _ hl)) (.inr (S.loc _ hl)), findIdx_at h⟩
  · split at h
    · cases h
    · rename_i hl _
      exact ⟨pg_name hN (findIdx_at h) (.inr (S.cell _ hl).1) (.inl (S.cell _ hl).2), findIdx_at h⟩
  · cases h
theorem nms_ok (hN : X.N.Nodup) {sc' : Scope} (S : Sets X sc') : ∀ {es : List Expr} {is : List Nat}, nmsOf X.N sc' es = some is → PGs X es (tGs G is) ∧ (assignEach es X.env).length = is.length ∧ (assignEach es X.env).findIdx? (·.1) = none
  | [], is, h => by cases h; exact ⟨gs_nil, rfl, rfl⟩
  | e :: es, is, h => by
    unfold nmsOf at h
    split at h
    · rename_i x; cases x
    · rename_i x p es' heq
      cases heq
      split at h
      · rename_i i is' h1 h2
        cases h
        obtain ⟨q1, q2, q3⟩ := nms_ok hN S h2
        refine ⟨gs_cons (ownIx_ok hN S h1).1 q1, ?_, ?_⟩
        · show (assignEach es X.env).length + 1 = _
          rw [q2]; rfl
        · rw [show assignEach (.Name x p :: es) X.env = (false, assign (.Name x p) X.env) :: assignEach es X.env from rfl, List.findIdx?_cons, q3]
          rfl
      · cases h
    · cases h
theorem tg_ok (hN : X.N.Nodup) (hK : X.K = G.toRc.K) (hc : X.calm = true) {sc' : Scope} (S : Sets X sc') {e : Expr} {t : Tg} (h : tgOf X.N sc' e = some t) : PG X e (tG G t) := by
  unfold tgOf at h
  split at h
  · split at h
    · cases h
      rename_i hi
      exact g_nm (ownIx_ok hN S hi).1
    · cases h
  · split at h
    · cases h
      rename_i hi
      obtain ⟨q1, q2, q3⟩ := nms_ok (G := G) hN S hi
      exact g_tp hK hc q1 q2 q3
    · cases h
  · cases h
theorem div_le_self' {x c : Int} (hc : 0 < c) (hx : x ≤ 2 ^ 40) : x / c ≤ 2 ^ 40 := by
  by_cases h : 0 ≤ x
  · exact Int.le_trans (Int.ediv_le_self _ h) hx
  · have : x / c < 0 := Int.ediv_neg_of_neg_of_pos (by omega) hc
    omega
theorem small_up {i j c : Int} (hi : Small i) (hj : Small j) (hs : j - i ≤ sizeLine) (hc : 0 < c) (hc' : c < 1073741824) : Builtin.Range.small i j c = true ∧ Builtin.Range.rangeSize i j c = (((j - i + c - 1) / c).toNat : Int) := by
  obtain ⟨h1, h2⟩ := hi
  obtain ⟨h3, h4⟩ := hj
  have hsz : (sizeLine : Int) = 2 ^ 24 := by decide
  rw [hsz] at hs
  have e : Builtin.Range.rangeSize i j c = (((j - i + c - 1) / c).toNat : Int) := by
    unfold Builtin.Range.rangeSize
    rw [if_pos hc]
    split
    · rename_i hl
      have e1 : j - i + c - 1 = (j - i - 1) + 1 * c := by omega
      rw [e1, Int.add_mul_ediv_right _ _ (by omega)]
      have : 0 ≤ (j - i - 1) / c := Int.ediv_nonneg (by omega) (by omega)
      omega
    · rename_i hl
      have : (j - i + c - 1) / c < 1 := by
        rw [Int.ediv_lt_iff_lt_mul hc]; omega
      omega
  refine ⟨?_, e⟩
  unfold Builtin.Range.small
  rw [e]
  have b : (j - i + c - 1) / c ≤ 2 ^ 40 := div_le_self' hc (by omega)
  simp only [Builtin.Range.rangeFitsLong, Bool.and_eq_true, Bool.or_eq_true, decide_eq_true_eq, beq_iff_eq, if_pos hc]
  omega
theorem rs_len {i j c : Int} (z3 : j - i ≤ sizeLine) (z4 : 0 < c) : ((j - i + c - 1) / c).toNat ≤ sizeLine := by
  have hsz : (sizeLine : Int) = 2 ^ 24 := by decide
  rw [hsz] at z3
  have b : (j - i + c - 1) / c ≤ 2 ^ 24 := by
    by_cases h0 : 0 < j - i
    · have e1 : j - i + c - 1 = (j - i - 1) + 1 * c := by omega
      rw [e1, Int.add_mul_ediv_right _ _ (by omega)]
      have := Int.ediv_le_self c (show 0 ≤ j - i - 1 by omega)
      omega
    · have : (j - i + c - 1) / c < 1 := by
        rw [Int.ediv_lt_iff_lt_mul z4]; omega
      omega
  have hn : sizeLine = 2 ^ 24 := by decide
  rw [hn]
  omega
theorem rs_get {i c : Int} {n k : Nat} (h : k < n) : ((List.range n).map fun (k : Nat) => D.int (i + k * c))[k]? = some (.int (i + (k : Int) * c)) := by
  rw [List.getElem?_map, List.getElem?_range h]
  rfl
theorem wk_rangeC {R : Rc} {lo c : Int} {n : Nat} {H : Hp} : Wk R (Itc lo c n) ((List.range n).map fun (k : Nat) => D.int (lo + k * c)) H := by
  refine ⟨fun i H1 k hi => (by simpa using hi : i < n), fun H1 k => by rw [List.length_map, List.length_range]; exact Nat.le_refl n, fun i H1 x H2 k hi y => ?_⟩
  obtain ⟨rfl, rfl⟩ := y
  exact ⟨Ext.refl _, _, rs_get (by simpa using hi), rep_int.mpr rfl⟩
theorem i_rg3 {tg a b d : Expr} {c c' c'' : CE} {p pos : Pos} (hg : Gl X "range") (hm : X.mg "range" = none) (hs : isStar a = false) (hs' : isStar b = false) (hs'' : isStar d = false) (ha : PE X a (tE G cl c)) (hb : PE X b (tE G cl c')) (hd : PE X d (tE G cl c'')) : PI X tg (.Call (.Name "range" p) [a, b, d] [] pos) (tI G cl (.rg3 c c' c'')) :=
  pi_imp (pi_range3 hg hm (pa_cons (pe_val ha) (pa_cons (pe_val hb) (pa_cons (pe_val hd) pa_nil (star_one hs'')) (star_one hs')) (star_one hs)) (by rw [star_one hs]) (by rw [star_one hs', star_one hs'']; rfl)) fun σ H R ⟨env, xs, env', E, ev, q⟩ => by
    rw [evalI] at ev
    obtain ⟨s1, x, e1, ev1, d1, ev⟩ := bindV_some ev
    obtain ⟨s2, y, e2, ev2, d2, ev⟩ := bindV_some ev
    obtain ⟨s3, z, e3, ev3, d3, ev⟩ := bindV_some ev
    cases x <;> cases y <;> cases z <;> try (cases (show (none : Option (List D × En)) = some (xs, env') from ev))
    simp only at ev
    obtain ⟨ds, hr, e⟩ := map_some' ev
    cases e
    unfold rangeStep at hr
    split at hr
    · rename_i hz
      cases hr
      obtain ⟨z1, z2, z3, z4, z5⟩ := hz
      obtain ⟨w1, w2⟩ := small_up z1 z2 z3 z4 z5
      refine ⟨env, s1, _, _, E, ev1, d1, fun v H1 p1 r1 => ?_⟩
      refine ⟨e1, s2, _, _, p1.ok, ev2, d2, fun w H2 p2 r2 => ?_⟩
      refine ⟨e2, s3, _, _, p2.ok, ev3, d3, fun w' H3 p3 r3 => ?_⟩
      refine ⟨_, _, _, _, by rw [rep_int.mp r1, rep_int.mp r2, rep_int.mp r3], ⟨by omega, by omega, w1, w2⟩, q _ H3 ((p1.trans p2).trans p3) wk_rangeC ?_⟩
      rw [List.length_map, List.length_range]
      exact rs_len z3 z4
    · cases hr
theorem noSet_fold {e : Expr} {env : PySem.Env} (h : noSet e = true) : ∀ x, foldedSetIterable e env x = pure x := by
  intro x
  cases e <;> first | rfl | cases h
theorem iter_ok (O : Ok T N X G.toRc cl sc) (H : HF X G cl f) {tg e : Expr} {c : CI} (h : iterOf sc f e = some c) : PI X tg e (tI G cl c) := by
  have i1_ok : ∀ {e : Expr} {c : CI}, i1 f .sq e = some c → PI X tg e (tI G cl c) := fun h => by
    unfold i1 at h
    split at h
    · cases h
      exact i_sq O.K (H _ _ (by assumption)).pe
    · cases h
  unfold iterOf at h
  split at h
  · rename_i x p args pos
    split at h
    · rename_i hx
      rw [Bool.and_eq_true] at hx
      obtain ⟨hx1, hx2⟩ := hx
      have e := of_decide_eq_true hx1
      subst e
      obtain ⟨g1, g2⟩ := gl_of O hx2
      have hm := O.free ("range" : Str) (by decide +kernel)
      unfold iRange at h
      split at h
      · split at h
        · cases h
        · rename_i hs
          unfold i1 at h
          split at h
          · cases h
            exact i_rg1 g1 hm (by simpa using hs) (H _ _ (by assumption)).pe
          · cases h
      · split at h
        · cases h
        · rename_i hs
          simp only [Bool.or_eq_true, not_or, Bool.not_eq_true] at hs
          split at h
          · cases h
            exact i_rg2 g1 hm hs.1 hs.2 (H _ _ (by assumption)).pe (H _ _ (by assumption)).pe
          · cases h
      · split at h
        · cases h
        · rename_i hs
          simp only [Bool.or_eq_true, not_or, Bool.not_eq_true] at hs
          split at h
          · cases h
            exact i_rg3 g1 hm hs.1.1 hs.1.2 hs.2 (H _ _ (by assumption)).pe (H _ _ (by assumption)).pe (H _ _ (by assumption)).pe
          · cases h
      · cases h
    · exact i1_ok h
  · split at h
    · exact i1_ok h
    · cases h
theorem relS_at {scope sc : Scope} {x : Str} {k : NameKind} (hk : k ≠ .free) (h : scope.names.lookup x = some k) : (relS scope sc).names.lookup x = some k := by
  show List.lookup x (scope.names.map fun (p : Str × NameKind) => if (p.2 == .free && sc.kind == .function && sc.names.lookup p.1 == some .cell) then (p.1, NameKind.cell) else (p.1, p.2)) = some k
  generalize scope.names = l at h
  induction l with
  | nil => cases h
  | cons p l ih =>
    obtain ⟨n, k'⟩ := p
    rw [List.lookup_cons] at h
    rw [List.map_cons]
    by_cases hx : (x == n) = true
    · rw [hx] at h
      cases h
      have : (k == NameKind.free) = false := by cases k <;> first | rfl | exact absurd rfl hk
      simp only [this, Bool.false_and]
      rw [if_neg Bool.false_ne_true, List.lookup_cons, hx]
    · have hx' : (x == n) = false := by simpa using hx
      rw [hx'] at h
      split <;> (rw [List.lookup_cons, hx']; exact ih h)
theorem Ok.blk (O : Ok T N X G.toRc cl sc) (s : Shared) (H : Hp) (scope : Scope) (C : Addr) (cs : List (Str × Addr)) (fp : List Addr) : Ok T N (X.blk s H scope (compEnvC scope cs C X.env) fp) G.toRc cl (relS scope sc) where
  nm := O.nm
  nd := O.nd
  sc := by rw [← O.sc]; rfl
  calm := O.calm
  K := O.K
  un := O.un
  fns := O.fns
  cst := O.cst
  fv := O.fv
  free := O.free
theorem sets_blk (s : Shared) (H : Hp) (scope : Scope) (C : Addr) (cs : List (Str × Addr)) (fp : List Addr) : Sets (X.blk s H scope (compEnvC scope cs C X.env) fp) scope where
  loc := fun x h => relS_at (sc := X.env.scope) (fun h => nomatch h) h
  cell := fun x h => ⟨relS_at (sc := X.env.scope) (fun h => nomatch h) h, by
    show (scope.names.lookup x == some .cell) = true
    rw [h]; rfl⟩
theorem lcG {f : Scope → Expr → Option CE} (O : Ok T N X G.toRc cl sc) (H : ∀ (X : Cx) (sc : Scope), Ok T N X G.toRc cl sc → HF X G cl (f sc)) {elt : Expr} {g : Comprehension} {scope : Scope} {p : Pos} {c : CE} (h : cLc N f sc elt scope g = some c) : Gd X G cl (.ListComp elt [g] scope p) c := by
  unfold cLc at h
  split at h
  rename_i tg iter ifs k
  split at h
  · rename_i hc
    rw [Bool.and_eq_true, Bool.and_eq_true] at hc
    obtain ⟨⟨hk, hs⟩, hb⟩ := hc
    have hk := of_decide_eq_true hk
    subst hk
    split at h
    · rename_i ci t ce cc h1 h2 h3 h4
      split at h
      · rename_i hv
        cases h
        have hv' : ∀ j ∈ t.vars, j ∈ (ownOf N scope).map (·.2) := fun j hj => by
          have := List.all_eq_true.mp hv j hj
          simpa using this
        have ok : BlkOk X.N X.env.scope scope (ownOf N scope) := by
          rw [O.nm, O.sc]
          exact blkOk_by hb
        have hts : ∀ (s : Shared) (H' : Hp) (C : Addr) (cs : List (Str × Addr)) (fp : List Addr), PTs (X.blk s H' scope (compEnvC scope cs C X.env) fp) ifs (tT G cl cc) := fun s H' C cs fp => by
          unfold condOf at h4
          split at h4
          · cases h4
            exact ts_nil (b := .Constant (.bool true) 0 p)
          · exact pts_one (H _ _ (O.blk s H' scope C cs fp) _ _ h4).pt
          · cases h4
        refine .mk' ?_ (noT fun env => by rw [evalT] <;> simp)
        exact ⟨fun pins s σ H' Q I q => (pe_lc (wi := tI G cl ci) (g := tG G t) (tt := tT G cl cc) (te := tV G cl ce) O.calm (by rw [O.nm]; exact O.nd) (iter_ok O (H _ _ O) h1) ok
          (fun s H' C cs fp => tg_ok (X := X.blk s H' scope (compEnvC scope cs C X.env) fp) (by rw [(O.blk s H' scope C cs fp).nm]; exact O.nd) O.K O.calm (sets_blk s H' scope C cs fp) (by rw [(O.blk s H' scope C cs fp).nm]; exact h2)) hts
          (fun s H' C cs fp => pe_val (H _ _ (O.blk s H' scope C cs fp) _ _ h3).pe) (noSet_fold hs)).run pins s σ H' Q I (lc_reads hv' q)⟩
      · cases h
    · cases h
  · cases h
end
theorem cmpE_ok {T : Tab} {N : List Str} {G : Gh} {cl : Oracle} : ∀ (n : Nat) (X : Cx) (sc : Scope), Ok T N X G.toRc cl sc → HF X G cl (cmpE T N n sc)
  | 0, X, sc, O, e, c, h => by cases h
  | n + 1, X, sc, O, e, c, h => by
    have H := cmpE_ok n X sc O
    unfold cmpE at h
    split at h
    · exact nameG O h
    · exact constG h
    · exact binG O H h
    · exact unG O H h
    · exact cmpG O H h
    · exact boolG O H h
    · exact ifeG H h
    · split at h
      · cases h; exact tupG H (by assumption)
      · cases h
    · split at h
      · cases h; exact lstG H (by assumption)
      · cases h
    · exact subG O H h
    · exact callG O H h
    · exact lcG O (fun X sc O => cmpE_ok n X sc O) h
    · cases h
end Pi

-- PiComp3
set_option maxHeartbeats 4000000
namespace Pi
open PySem PySem.Spec PyProof.Rows L2
def noComp : Expr → Bool
  | .ListComp .. | .SetComp .. | .DictComp .. => false
  | _ => true
section
variable (N : List Str) (sc : Scope) (f : Expr → Option CE)
def cTupAsg (ts vs : List Expr) : Option CS := match nmsOf N sc ts, mapEs f vs with
  | some is, some cs => if is.Nodup ∧ vs.length = ts.length ∧ is.length ≤ 1000 ∧ (vs.all (foldedForSure 8) || !vs.all (constantsAlone 8)) = true then some (.asl is cs) else none
  | _, _ => none
def cTup1 (ts : List Expr) (e : Expr) : Option CS := match nmsOf N sc ts, f e with
  | some is, some c => some (.asg (.tp is) c)
  | _, _ => none
def cSetIx (x : Str) (k e : Expr) : Option CS := if noSlice k then match slotOf N sc x, f k, f e with
    | some i, some ck, some ce => some (.setix i ck ce)
    | _, _, _ => none
  else none
def cAsg (tg e : Expr) : Option CS := match tg with
  | .Name x _ => match ownIx N sc x, f e with
    | some i, some c => some (.asg (.nm i) c)
    | _, _ => none
  | .Tuple ts _ _ => match e with
    | .Tuple vs _ _ => cTupAsg N sc f ts vs
    | e => cTup1 N sc f ts e
  | .Subscript (.Name x _) k _ => cSetIx N sc f x k e
  | _ => none
def cListM (x m : Str) (a : Expr) : Option CS := if isStar a then none else match slotOf N sc x, f a with
  | some i, some c => if m = "append" then some (.app i c) else if m = "extend" then some (.ext i c) else none
  | _, _ => none
def cDrop1 (e : Expr) : Option CS := if noComp e then match f e with
    | some c => some (.drop c)
    | none => none
  else none
def cDrop (e : Expr) : Option CS := match e with
  | .Call (.Attribute (.Name x _) m ap) [a] [] cp => if natEq ap.endLine cp.line then cListM N sc f x m a else none
  | e => cDrop1 f e
def cRet (e : Expr) : Option CS := match e with
  | .Name x p => match slotOf N sc x with
    | some i => some (.retv i)
    | none => match f (.Name x p) with
      | some c => some (.ret c)
      | none => none
  | e => match f e with
    | some c => some (.ret c)
    | none => none
def mapS (g : Stmt → Option CS) : List Stmt → Option CSs
  | [] => some .nil
  | s :: ss => match g s, mapS g ss with
    | some c, some cs => some (.cons c cs)
    | _, _ => none
def cFor (g : Stmt → Option CS) (tg it : Expr) (b : List Stmt) : Option CS := if noSet it then match iterOf sc f it, tgOf N sc tg, mapS g b with
    | some ci, some t, some cb => some (.fr t ci cb)
    | _, _, _ => none
  else none
def cIf (g : Stmt → Option CS) (c : Expr) (a b : List Stmt) : Option CS := match f c, mapS g a, mapS g b with
  | some cc, some ca, some cb => some (.ife cc ca cb)
  | _, _, _ => none
def cWhl (g : Stmt → Option CS) (c : Expr) (b : List Stmt) : Option CS := match f c, mapS g b with
  | some cc, some cb => some (.whl cc cb)
  | _, _ => none
def cTry (g : Stmt → Option CS) (b : List Stmt) : Option CS := match mapS g b with
  | some cb => some (.try_ cb)
  | none => none
def cmpS : Nat → Stmt → Option CS
  | 0, _ => none
  | n + 1, st => match st with
    | .Assign [tg] e _ => cAsg N sc f tg e
    | .Expr e _ => cDrop N sc f e
    | .Return none _ => some .ret0
    | .Return (some e) _ => cRet N sc f e
    | .If c a b _ => cIf f (cmpS n) c a b
    | .While c b [] _ => cWhl f (cmpS n) c b
    | .For tg it b [] _ => cFor N sc f (cmpS n) tg it b
    | .Try b (_ :: _) [] [] _ => cTry (cmpS n) b
    | .Raise .. => some .raise
    | .Pass _ => some .pass
    | .Break _ => some .brk
    | .Continue _ => some .cnt
    | _ => none
end
structure OkS (T : Tab) (N : List Str) (X : Cx) (R : Rc) (cl : Oracle) (sc : Scope) : Prop where
  o : Ok T N X R cl sc
  s : Sets X sc
  xe : X.xe = fun _ _ => False
  bk : sc.kind = .function
section
variable {T : Tab} {N : List Str} {X : Cx} {G : Gh} {cl : Oracle} {L : Nat} {sc : Scope} {f : Expr → Option CE}
theorem sole_tup {ts : List Expr} {k : Nat} {p : Pos} {e : Expr} {l : Nat} {env : PySem.Env} : swapsWithSole [.Tuple ts k p] e l env = pure false := by
  cases e <;> rfl
theorem sole_sub {a b : Expr} {p : Pos} {e : Expr} {l : Nat} {env : PySem.Env} : swapsWithSole [.Subscript a b p] e l env = pure false := by
  cases e <;> rfl
theorem sws_sub {a b : Expr} {p : Pos} {e : Expr} {env : PySem.Env} : swappedStores [.Subscript a b p] e env = pure none := by
  cases e <;> rfl
theorem swn {e : Expr} (h : noComp e = true) {l : Nat} {env : PySem.Env} : swapsWith e none l env = pure false := by
  cases e <;> first | rfl | cases h
theorem swx {e t : Expr} (h : noComp e = true) {l : Nat} {env : PySem.Env} : swapsWith e (some t) l env = pure false := by
  cases e <;> first | rfl | cases h
theorem retG (O : OkS T N X G.toRc cl sc) (H : HF X G cl f) {e : Expr} {p : Pos} {c : CS} (h : cRet N sc f e = some c) : PS X (.Return (some e) p) (tS G cl L c) := by
  unfold cRet at h
  split at h
  · split at h
    · cases h
      exact s_retv (pv_of O.o (by assumption))
    · split at h
      · cases h
        exact s_ret (H _ _ (by assumption)).pe
      · cases h
  · split at h
    · cases h
      exact s_ret (H _ _ (by assumption)).pe
    · cases h
theorem dropG (O : OkS T N X G.toRc cl sc) (H : HF X G cl f) {e : Expr} {p : Pos} {c : CS} (h : cDrop N sc f e = some c) : PS X (.Expr e p) (tS G cl L c) := by
  unfold cDrop at h
  split at h
  · rename_i x px m ap a cp
    split at h
    · rename_i hl
      unfold cListM at h
      split at h
      · cases h
      · rename_i hs
        have hs' : isStar a = false := by simpa using hs
        have hst : ∀ env, starEach [a] env = (false, eval a env) :: starEach [] env := fun env => star_one hs'
        have hfew : ((backTo cp (starEach [a] X.env)).all (fun x => !x.1) && (backToKw cp (keywordEach [] X.env)).all (fun x => x.1.isSome)
      && decide (([a] : List Expr).length + ([] : List Keyword).length + (if ([] : List Keyword).isEmpty then 0 else 1) < 30)) = true := by
          rw [hst]
          rfl
        split at h
        · rename_i i c' h1 h2
          split at h
          · rename_i hm
            cases h
            subst hm
            exact s_app (pv_of O.o h1) (H _ _ h2).pe hs' fun ho ht => ps_expr (pe_bm PySem.F.plainAttrs_list PySem.F.slot_list_append PySem.F.type_list_append mt_append ho ht (by rfl) hfew hl (hst _) (by rfl)) (by rfl)
          · split at h
            · rename_i hm
              cases h
              subst hm
              exact s_ext (pv_of O.o h1) (H _ _ h2).pe hs' fun ho ht => ps_expr (pe_bm PySem.F.plainAttrs_list PySem.F.slot_list_extend PySem.F.type_list_extend mt_extend ho ht (by rfl) hfew hl (hst _) (by rfl)) (by rfl)
            · cases h
        · cases h
    · cases h
  · unfold cDrop1 at h
    split at h
    · rename_i hn
      split at h
      · cases h
        exact s_drop (H _ _ (by assumption)).pe (swn hn)
      · cases h
    · cases h
theorem mapS_ok {g : Stmt → Option CS} (hg : ∀ st c, g st = some c → PS X st (tS G cl L c)) : ∀ {ss : List Stmt} {cs : CSs}, mapS g ss = some cs → PSs X ss (tSs G cl L cs)
  | [], cs, h => by cases h; exact ss_nil
  | s :: ss, cs, h => by
    unfold mapS at h
    split at h
    · cases h
      exact ss_cons (hg _ _ (by assumption)) (mapS_ok hg (by assumption))
    · cases h
theorem forG (O : OkS T N X G.toRc cl sc) (H : HF X G cl f) {g : Stmt → Option CS} (hg : ∀ st c, g st = some c → PS X st (tS G cl L c)) {tg it : Expr} {b : List Stmt} {p : Pos} {c : CS} (h : cFor N sc f g tg it b = some c) : PS X (.For tg it b [] p) (tS G cl L c) := by
  unfold cFor at h
  split at h
  · rename_i hn
    split at h
    · rename_i ci t cb h1 h2 h3
      cases h
      have hN := O.o.nm
      exact s_for (by rw [O.xe]; exact PassesOwn.never) O.o.calm (iter_ok O.o H h1) (tg_ok (by rw [hN]; exact O.o.nd) O.o.K O.o.calm O.s (by rw [hN]; exact h2)) (mapS_ok hg h3) (noSet_fold hn)
    · cases h
  · cases h
end
end Pi

-- PiSound5
set_option maxHeartbeats 4000000
namespace Pi
open PySem PySem.Spec PyProof.Rows L2
section
variable {T : Tab} {N : List Str} {X : Cx} {G : Gh} {cl : Oracle} {L : Nat} {sc : Scope} {f : Expr → Option CE}
theorem noSlice_set {o i : Expr} {p : Pos} {env : PySem.Env} (h : noSlice i = true) : ∀ v, assign (.Subscript o i p) env v = (do
      let ov ← holding [v] (eval o env)
      let iv ← holding [v, ov] (eval i env)
      standAt p
      holding [v, ov, iv] (setItem ov iv v)
      release [v, ov, iv] []) := by
  intro v
  cases i <;> first | rfl | cases h
theorem setixG (O : OkS T N X G.toRc cl sc) (H : HF X G cl f) {x : Str} {px p pos : Pos} {k e : Expr} {c : CS} (h : cSetIx N sc f x k e = some c) : PS X (.Assign [.Subscript (.Name x px) k p] e pos) (tS G cl L c) := by
  unfold cSetIx at h
  split at h
  · rename_i hn
    split at h
    · rename_i i ck ce h1 h2 h3
      cases h
      exact s_setix (pv_of O.o h1) (H _ _ h2).pe (H _ _ h3).pe (fun he hg => ps_asg he hg sole_sub sws_sub (by rfl)) fun ho hi hs => pg_sub ho hi hs (noSlice_set hn)
    · cases h
  · cases h
theorem tup1G (O : OkS T N X G.toRc cl sc) (H : HF X G cl f) {ts : List Expr} {k : Nat} {p pos : Pos} {e : Expr} {c : CS} (hne : ∀ vs k p, e ≠ .Tuple vs k p) (h : cTup1 N sc f ts e = some c) : PS X (.Assign [.Tuple ts k p] e pos) (tS G cl L c) := by
  unfold cTup1 at h
  split at h
  · rename_i is c' h1 h2
    cases h
    have hN := O.o.nm
    have hw : swappedStores [.Tuple ts k p] e X.env = pure none := by
      cases e <;> first | rfl | exact absurd rfl (hne _ _ _)
    exact s_tup (H _ _ h2).pe (tg_ok (t := .tp is) (by rw [hN]; exact O.o.nd) O.o.K O.o.calm O.s (by rw [hN]; show (match nmsOf N sc ts with | some is => some (Tg.tp is) | none => none) = _; rw [h1])) sole_tup hw (by rfl)
  · cases h
theorem gns_ok (hN : X.N.Nodup) {sc' : Scope} (S : Sets X sc') : ∀ {es : List Expr} {is : List Nat}, nmsOf X.N sc' es = some is → PGs X es (tGn is)
  | [], is, h => by cases h; exact gn_nil
  | e :: es, is, h => by
    unfold nmsOf at h
    split at h
    · rename_i x; cases x
    · rename_i x p es' heq
      cases heq
      split at h
      · rename_i i is' h1 h2
        cases h
        exact gn_cons (ownIx_ok hN S h1).1 (gns_ok hN S h2)
      · cases h
    · cases h
theorem sl_ok {f : Expr → Option CE} (hf : ∀ e c, f e = some c → PE X e (tE G cl c)) : ∀ {es : List Expr} {cs : CEs}, mapEs f es = some cs → PA X es (tSl G cl cs) ∧ es.all (fun e => !isStar e) = true
  | [], cs, h => by cases h; exact ⟨l_nil, rfl⟩
  | e :: es, cs, h => by
    unfold mapEs at h
    split at h
    · cases h
    · rename_i hs
      have hs' : isStar e = false := by simpa using hs
      split at h
      · rename_i c cs' h1 h2
        cases h
        obtain ⟨q1, q2⟩ := sl_ok hf h2
        exact ⟨l_cons hs' (hf e c h1) q1, by simp [hs', q2]⟩
      · cases h
theorem loc_ok (hN : X.N.Nodup) {sc' : Scope} (S : Sets X sc') {x : Str} {p : Pos} {es : List Expr} {is : List Nat} (h : nmsOf X.N sc' (.Name x p :: es) = some is) : ∃ i is', is = i :: is' ∧ X.N[i]? = some x ∧ nmsOf X.N sc' es = some is' := by
  unfold nmsOf at h
  split at h
  · rename_i i is' h1 h2
    cases h
    exact ⟨i, is', rfl, (ownIx_ok hN S (p := p) h1).2, h2⟩
  · cases h
theorem nms_name {sc' : Scope} {e : Expr} {es : List Expr} {is : List Nat} (h : nmsOf N sc' (e :: es) = some is) : ∃ x p, e = .Name x p := by
  unfold nmsOf at h
  split at h
  · rename_i x; cases x
  · rename_i x p es' heq
    cases heq
    exact ⟨x, p, rfl⟩
  · cases h
theorem stores_at {ts vs : List Expr} {k1 k2 : Nat} {p1 p2 : Pos} {env : PySem.Env} (hc : (vs.all (foldedForSure 8) || !vs.all (constantsAlone 8)) = true) :
    swappedStores [.Tuple ts k1 p1] (.Tuple vs k2 p2) env = pure none ∨
    ((ts.length = 2 ∨ ts.length = 3) ∧ ∃ g : Expr → Option Str, (∀ e x, g e = some x → (∃ p, e = .Name x p) ∧ env.kindOf x = some .local) ∧ (ts.filterMap g).length = ts.length ∧ swappedStores [.Tuple ts k1 p1] (.Tuple vs k2 p2) env = pure (some (ts.filterMap g))) := by
  unfold swappedStores
  simp only []
  split
  · exact .inl rfl
  · rename_i h1
    simp only [Bool.or_eq_true, not_or, Bool.not_eq_true, Bool.not_eq_false'] at h1
    split
    · exact .inl rfl
    · split
      · exact .inl rfl
      · rename_i h2
        split
        · exact .inl rfl
        · rename_i h3
          split
          · rename_i h4
            rw [h4] at hc
            simp at hc
            exact absurd (by simpa using hc) h3
          · refine .inr ⟨?_, _, ?_, ?_, rfl⟩
            · simpa using h1.1.1
            · intro e x h
              split at h
              · rename_i id pos
                split at h
                · rename_i hb
                  cases h
                  rw [Bool.and_eq_true] at hb
                  exact ⟨⟨pos, rfl⟩, by simpa using hb.1⟩
                · cases h
              · cases h
            · simp only [Bool.or_eq_true, not_or, Bool.not_eq_true, bne_eq_false_iff_eq] at h2
              exact h2.1
theorem fm_cons {g : Expr → Option Str} {e : Expr} {ts : List Expr} (h : ((e :: ts).filterMap g).length = (e :: ts).length) : ∃ x, g e = some x ∧ (e :: ts).filterMap g = x :: ts.filterMap g ∧ (ts.filterMap g).length = ts.length := by
  rw [List.filterMap_cons] at h ⊢
  split at h
  · have := List.length_filterMap_le g ts
    rw [List.length_cons] at h
    omega
  · rename_i x hx
    rw [List.length_cons, List.length_cons] at h
    rw [hx]
    exact ⟨x, rfl, rfl, by omega⟩
theorem asg_sole {ts : List Expr} {k : Nat} {p : Pos} {env : PySem.Env} : (assignEach [.Tuple ts k p] env).map (·.2) = [assign (.Tuple ts k p) env] := rfl
theorem tupAsgG (O : OkS T N X G.toRc cl sc) (H : HF X G cl f) {ts vs : List Expr} {k1 k2 : Nat} {p1 p2 pos : Pos} {c : CS} (h : cTupAsg N sc f ts vs = some c) : PS X (.Assign [.Tuple ts k1 p1] (.Tuple vs k2 p2) pos) (tS G cl L c) := by
  unfold cTupAsg at h
  split at h
  · rename_i is cs h1 h2
    split at h
    · rename_i hc
      obtain ⟨c1, c2, c3, c4⟩ := hc
      cases h
      have hN := O.o.nm
      have nd : X.N.Nodup := by rw [hN]; exact O.o.nd
      have h1' : nmsOf X.N sc ts = some is := by rw [hN]; exact h1
      obtain ⟨_, n2, n3⟩ := nms_ok (G := G) nd O.s h1'
      obtain ⟨q1, q2⟩ := sl_ok (vals (H := H)) h2
      rcases stores_at (ts := ts) (k1 := k1) (k2 := k2) (p1 := p1) (p2 := p2) (env := X.env) c4 with hw | ⟨hl, g, hg, hlen, hw⟩
      · have hz : (1000 : Nat) ≤ sizeLine := by decide
        exact s_mul O.o.K O.o.calm q1 (gns_ok nd O.s h1') n2 n3 sole_tup hw asg_sole (by omega)
      · rcases hl with hl | hl
        · match ts, vs, hl, c2 with
          | [a, b], [v, w], _, _ =>
            obtain ⟨x, ga, e1, l1⟩ := fm_cons hlen
            obtain ⟨y, gb, e2, l2⟩ := fm_cons l1
            obtain ⟨⟨px, rfl⟩, lx⟩ := hg _ _ ga
            obtain ⟨⟨py, rfl⟩, ly⟩ := hg _ _ gb
            obtain ⟨i, is', rfl, hi, r1⟩ := loc_ok nd O.s h1'
            obtain ⟨j, is'', rfl, hj, r2⟩ := loc_ok nd O.s r1
            cases r2
            rw [e1, e2] at hw
            have hij : i ≠ j := by
              rintro rfl
              simp at c1
            exact s_par (ps_par O.o.calm nd hi hj hij lx ly q1 hw sole_tup)
        · match ts, vs, hl, c2 with
          | [a, b, d], [v, w, z], _, _ =>
            obtain ⟨x, ga, e1, l1⟩ := fm_cons hlen
            obtain ⟨y, gb, e2, l2⟩ := fm_cons l1
            obtain ⟨u, gd, e3, l3⟩ := fm_cons l2
            obtain ⟨⟨px, rfl⟩, lx⟩ := hg _ _ ga
            obtain ⟨⟨py, rfl⟩, ly⟩ := hg _ _ gb
            obtain ⟨⟨pz, rfl⟩, lz⟩ := hg _ _ gd
            obtain ⟨i, is', rfl, hi, r1⟩ := loc_ok nd O.s h1'
            obtain ⟨j, is'', rfl, hj, r2⟩ := loc_ok nd O.s r1
            obtain ⟨k, is3, rfl, hk, r3⟩ := loc_ok nd O.s r2
            cases r3
            rw [e1, e2, e3] at hw
            simp only [List.nodup_cons, List.mem_cons, List.not_mem_nil, or_false, not_or] at c1
            exact s_par3 (ps_par3 O.o.calm nd hi hj hk c1.1.1 c1.1.2 c1.2.1 lx ly lz q1 hw sole_tup)
    · cases h
  · cases h
end
end Pi

-- PiSound6
set_option maxHeartbeats 4000000
namespace Pi
open PySem PySem.Spec PyProof.Rows L2
section
variable {T : Tab} {N : List Str} {X : Cx} {G : Gh} {cl : Oracle} {L : Nat} {sc : Scope}
theorem ownIx_loc {sc' : Scope} (S : Sets X sc') {x : Str} {i : Nat} (h : ownIx X.N sc' x = some i) : X.N[i]? = some x ∧ Loc X.env.scope x ∧ (X.fn x = true ∨ X.env.scope.names.lookup x = some .local) := by
  unfold ownIx at h
  split at h
  · split at h
    · cases h
    · rename_i hl _
      exact ⟨findIdx_at h, .inl (S.loc _ hl), .inr (S.loc _ hl)⟩
  · split at h
    · cases h
    · rename_i hl _
      exact ⟨findIdx_at h, .inr (S.cell _ hl).1, .inl (S.cell _ hl).2⟩
  · cases h
theorem lcSet {f : Scope → Expr → Option CE} (O : Ok T N X G.toRc cl sc) (H : ∀ (X : Cx) (sc : Scope), Ok T N X G.toRc cl sc → HF X G cl (f sc)) {elt : Expr} {g : Comprehension} {scope : Scope} {p spos py : Pos} {c : CE} {y : Str} {i : Nat} (hy : X.N[i]? = some y) (hyl : X.env.scope.names.lookup y = some .local)
    (hsw : swapsWith (.ListComp elt [g] scope p) (some (.Name y py)) spos.line X.env = pure true) (h : cLc N f sc elt scope g = some c) : PS X (.Assign [.Name y py] (.ListComp elt [g] scope p) spos) (tAsg (tE G cl c) (gName i)) := by
  unfold cLc at h
  split at h
  rename_i tg iter ifs k
  split at h
  · rename_i hc
    rw [Bool.and_eq_true, Bool.and_eq_true] at hc
    obtain ⟨⟨hk, hs⟩, hb⟩ := hc
    have hk := of_decide_eq_true hk
    subst hk
    split at h
    · rename_i ci t ce cc h1 h2 h3 h4
      split at h
      · rename_i hv
        cases h
        have hv' : ∀ j ∈ t.vars, j ∈ (ownOf N scope).map (·.2) := fun j hj => by
          have := List.all_eq_true.mp hv j hj
          simpa using this
        have ok : BlkOk X.N X.env.scope scope (ownOf N scope) := by
          rw [O.nm, O.sc]
          exact blkOk_by hb
        have hts : ∀ (s : Shared) (H' : Hp) (C : Addr) (cs : List (Str × Addr)) (fp : List Addr), PTs (X.blk s H' scope (compEnvC scope cs C X.env) fp) ifs (tT G cl cc) := fun s H' C cs fp => by
          unfold condOf at h4
          split at h4
          · cases h4
            exact ts_nil (b := .Constant (.bool true) 0 p)
          · exact pts_one (H _ _ (O.blk s H' scope C cs fp) _ _ h4).pt
          · cases h4
        exact ⟨fun pins s σ H' D I q => (ps_setLc (wi := tI G cl ci) (g := tG G t) (tt := tT G cl cc) (te := tV G cl ce) O.calm (by rw [O.nm]; exact O.nd) hy hyl hsw (iter_ok O (H _ _ O) h1) ok
          (fun s H' C cs fp => tg_ok (X := X.blk s H' scope (compEnvC scope cs C X.env) fp) (by rw [(O.blk s H' scope C cs fp).nm]; exact O.nd) O.K O.calm (sets_blk s H' scope C cs fp) (by rw [(O.blk s H' scope C cs fp).nm]; exact h2)) hts
          (fun s H' C cs fp => pe_val (H _ _ (O.blk s H' scope C cs fp) _ _ h3).pe) (noSet_fold hs)).run pins s σ H' D I (lc_reads hv' q)⟩
      · cases h
    · cases h
  · cases h
theorem swLc {elt : Expr} {gs : List Comprehension} {scope : Scope} {p py : Pos} {y : Str} {l : Nat} {env : PySem.Env} : ∃ b, swapsWith (.ListComp elt gs scope p) (some (.Name y py)) l env = pure b ∧ (b = true → env.scope.names.lookup y = some .local) := by
  refine ⟨_, rfl, fun h => ?_⟩
  simp only [Bool.and_eq_true] at h
  simpa [Env.kindOf] using h.1.1.2
theorem cmpE_lc {n : Nat} {elt : Expr} {gs : List Comprehension} {scope : Scope} {p : Pos} {c : CE} (h : cmpE T N (n + 1) sc (.ListComp elt gs scope p) = some c) : ∃ g, gs = [g] ∧ cLc N (cmpE T N n) sc elt scope g = some c := by
  match gs, h with
  | [], h => cases h
  | [g], h => exact ⟨g, rfl, h⟩
  | _ :: _ :: _, h => cases h
theorem nameAsgG {n : Nat} (O : OkS T N X G.toRc cl sc) {x : Str} {px pos : Pos} {e : Expr} {i : Nat} {c : CE} (hi : ownIx N sc x = some i) (h : cmpE T N n sc e = some c) : PS X (.Assign [.Name x px] e pos) (tS G cl L (.asg (.nm i) c)) := by
  have hN := O.o.nm
  have nd : X.N.Nodup := by rw [hN]; exact O.o.nd
  obtain ⟨q1, q2, q3⟩ := ownIx_loc O.s (x := x) (i := i) (by rw [hN]; exact hi)
  have Hn := cmpE_ok (G := G) n X sc O.o
  refine s_asg ?_
  by_cases hc : noComp e = true
  · exact ps_set nd q1 q2 (Hn _ _ h).pe (swx hc) q3
  · cases e <;> first | exact absurd rfl hc | skip
    · rename_i elt gs scope p
      obtain ⟨b, hb, hl⟩ := swLc (elt := elt) (gs := gs) (scope := scope) (p := p) (py := px) (y := x) (l := pos.line) (env := X.env)
      cases b with
      | false => exact ps_set nd q1 q2 (Hn _ _ h).pe hb q3
      | true =>
        cases n with
        | zero => cases h
        | succ n =>
          obtain ⟨g, rfl, h'⟩ := cmpE_lc h
          exact lcSet O.o (fun X sc O => cmpE_ok n X sc O) q1 (hl rfl) hb h'
    · cases n with
      | zero => cases h
      | succ n => cases h
    · cases n with
      | zero => cases h
      | succ n => cases h
theorem asgG {m : Nat} (O : OkS T N X G.toRc cl sc) {tg e : Expr} {p : Pos} {c : CS} (h : cAsg N sc (cmpE T N m sc) tg e = some c) : PS X (.Assign [tg] e p) (tS G cl L c) := by
  have Hn := cmpE_ok (G := G) m X sc O.o
  unfold cAsg at h
  split at h
  · split at h
    · cases h
      exact nameAsgG O (by assumption) (by assumption)
    · cases h
  · split at h
    · exact tupAsgG O Hn h
    · rename_i hne
      exact tup1G O Hn (fun vs k p he => hne vs k p he) h
  · exact setixG O Hn h
  · cases h
theorem nox_eq {X : Cx} (h : X.xe = fun _ _ => False) : X.nox = X := by
  cases X
  subst h
  rfl
theorem cmpS_ok {m : Nat} (O : OkS T N X G.toRc cl sc) : ∀ (n : Nat) (st : Stmt) (c : CS), cmpS N sc (cmpE T N m sc) n st = some c → PS X st (tS G cl L c)
  | 0, st, c, h => by cases h
  | n + 1, st, c, h => by
    have Hn := cmpE_ok (G := G) m X sc O.o
    have IH := cmpS_ok (m := m) O n
    unfold cmpS at h
    split at h
    · exact asgG O h
    · exact dropG O Hn h
    · cases h; exact s_ret0
    · exact retG O Hn h
    · unfold cIf at h
      split at h
      · cases h
        exact s_ife (Hn _ _ (by assumption)).pt (mapS_ok IH (by assumption)) (mapS_ok IH (by assumption))
      · cases h
    · unfold cWhl at h
      split at h
      · cases h
        exact s_whl (by rw [O.xe]; exact PassesOwn.never) (Hn _ _ (by assumption)).pt (mapS_ok IH (by assumption))
      · cases h
    · exact forG O Hn IH h
    · unfold cTry at h
      split at h
      · cases h
        exact s_try (by rw [nox_eq O.xe]; exact mapS_ok IH (by assumption))
      · cases h
    · cases h; exact s_raise
    · cases h; exact s_pass
    · cases h; exact s_brk
    · cases h; exact s_cnt
    · cases h
end
end Pi

-- PiDef
set_option maxHeartbeats 4000000
namespace Pi
open PySem PySem.Spec PyProof.Rows L2

def ioFrom : Nat → List Slot → List V → List (Nat × Addr)
  | i, .io _ :: ss, .ref a :: vs => (i, a) :: ioFrom (i + 1) ss vs
  | i, _ :: ss, _ :: vs => ioFrom (i + 1) ss vs
  | _, _, _ => []
def InOk (R : Rc) (H : Hp) : Slot → V → Prop
  | .val d, v => Rep R H v d
  | .io ds, v => ∃ a xs, v = .ref a ∧ H a = some (.lst xs) ∧ Reps R H xs ds
  | _, _ => False
def InsOk (R : Rc) (H : Hp) : List Slot → List V → Prop
  | [], [] => True
  | s :: ss, v :: vs => InOk R H s v ∧ InsOk R H ss vs
  | _, _ => False
section
variable {R : Rc} {H : Hp}
theorem argSlots_ok : ∀ {ms : List Bool} {args ss : List Slot} {vs : List V} (k : Nat), argSlots ms args = some ss → ArgsOk R H args vs → InsOk R H ss vs ∧ (ioFrom k ss vs).map (·.2) = ownsOf args vs ∧ ss.length = args.length
  | [], args, ss, vs, k, h, a => by
    cases args with
    | nil =>
      cases h
      cases vs with
      | nil => exact ⟨trivial, rfl, rfl⟩
      | cons _ _ => exact a.elim
    | cons _ _ => cases h
  | m :: ms, [], ss, vs, k, h, a => by cases m <;> cases h
  | m :: ms, s :: args, ss, [], k, h, a => a.elim
  | m :: ms, s :: args, ss, v :: vs, k, h, a => by
    obtain ⟨a1, a2⟩ := a
    cases m with
    | true =>
      cases s with
      | own ds =>
        obtain ⟨ss', h1, rfl⟩ := map_some' (show (argSlots ms args).map (Slot.io ds :: ·) = some ss from h)
        obtain ⟨q1, q2, q3⟩ := argSlots_ok (k + 1) h1 a2
        obtain ⟨b, xs, rfl, e1, e2⟩ := a1
        refine ⟨⟨⟨b, xs, rfl, e1, e2⟩, q1⟩, ?_, by simp [q3]⟩
        show b :: (ioFrom (k + 1) ss' vs).map (·.2) = b :: ownsOf args vs
        rw [q2]
      | nil => cases h
      | val _ => cases h
      | io _ => cases h
    | false =>
      cases s with
      | val d =>
        obtain ⟨ss', h1, rfl⟩ := map_some' (show (argSlots ms args).map (Slot.val d :: ·) = some ss from h)
        obtain ⟨q1, q2, q3⟩ := argSlots_ok (k + 1) h1 a2
        refine ⟨⟨a1, q1⟩, ?_, by simp [q3]⟩
        have e1 : ioFrom k (.val d :: ss') (v :: vs) = ioFrom (k + 1) ss' vs := by cases v <;> rfl
        have e2 : ownsOf (.val d :: args) (v :: vs) = ownsOf args vs := by cases v <;> rfl
        rw [e1, e2, q2]
      | nil => cases h
      | own _ => cases h
      | io _ => cases h
theorem InsOk.len : ∀ {ss : List Slot} {vs : List V}, InsOk R H ss vs → vs.length = ss.length
  | [], [], _ => rfl
  | [], _ :: _, h => h.elim
  | _ :: _, [], h => h.elim
  | s :: ss, v :: vs, h => by simp [InsOk.len h.2]
theorem InsOk.at : ∀ {ss : List Slot} {vs : List V} {i : Nat} {s : Slot}, InsOk R H ss vs → ss[i]? = some s → ∃ v, vs[i]? = some v ∧ InOk R H s v
  | [], _, i, s, h, e => by simp at e
  | _ :: _, [], i, s, h, e => h.elim
  | s' :: ss, v :: vs, 0, s, h, e => by simp at e; subst e; exact ⟨v, rfl, h.1⟩
  | s' :: ss, v :: vs, i + 1, s, h, e => by
    have e' : ss[i]? = some s := by simpa using e
    obtain ⟨w, e1, q⟩ := InsOk.at h.2 e'
    exact ⟨w, by simpa using e1, q⟩
theorem ioFrom_mem : ∀ {ss : List Slot} {vs : List V} {k i : Nat} {ds : List D} {a : Addr}, ss[i]? = some (.io ds) → vs[i]? = some (.ref a) → (k + i, a) ∈ ioFrom k ss vs
  | [], _, k, i, ds, a, e, _ => by simp at e
  | _ :: _, [], k, i, ds, a, _, e => by simp at e
  | s :: ss, v :: vs, k, 0, ds, a, e1, e2 => by
    simp at e1 e2
    subst e1; subst e2
    exact List.mem_cons_self
  | s :: ss, v :: vs, k, i + 1, ds, a, e1, e2 => by
    have q := ioFrom_mem (k := k + 1) (show ss[i]? = some (.io ds) by simpa using e1) (show vs[i]? = some (.ref a) by simpa using e2)
    have e : k + 1 + i = k + (i + 1) := by omega
    rw [e] at q
    cases s <;> cases v <;> first | exact q | exact List.mem_cons_of_mem _ q
theorem ioFrom_of : ∀ {ss : List Slot} {vs : List V} {k : Nat} {p : Nat × Addr}, p ∈ ioFrom k ss vs → ∃ i ds, p.1 = k + i ∧ ss[i]? = some (.io ds) ∧ vs[i]? = some (.ref p.2)
  | [], _, k, p, h => by simp [ioFrom] at h
  | s :: ss, [], k, p, h => by cases s <;> simp [ioFrom] at h
  | s :: ss, v :: vs, k, p, h => by
    have rest : p ∈ ioFrom (k + 1) ss vs → ∃ i ds, p.1 = k + i ∧ (s :: ss)[i]? = some (.io ds) ∧ (v :: vs)[i]? = some (.ref p.2) := fun h => by
      obtain ⟨i, ds, e1, e2, e3⟩ := ioFrom_of h
      exact ⟨i + 1, ds, by omega, by simpa using e2, by simpa using e3⟩
    cases s <;> cases v <;> first
      | exact rest h
      | (rcases List.mem_cons.mp h with h | h
         · subst h
           exact ⟨0, _, rfl, rfl, rfl⟩
         · exact rest h)
theorem inj_map {α β : Type} {f : α → β} : ∀ {l : List α}, (l.map f).Nodup → ∀ {x y : α}, x ∈ l → y ∈ l → f x = f y → x = y
  | [], _, x, _, h, _, _ => by cases h
  | a :: l, nd, x, y, hx, hy, e => by
    rw [List.map_cons, List.nodup_cons] at nd
    rcases List.mem_cons.mp hx with h1 | h1 <;> rcases List.mem_cons.mp hy with h2 | h2
    · rw [h1, h2]
    · rw [← h1, e] at nd
      exact absurd (List.mem_map_of_mem h2) nd.1
    · rw [← h2, ← e] at nd
      exact absurd (List.mem_map_of_mem h1) nd.1
    · exact inj_map nd.2 h1 h2 e
abbrev entryG (R : Rc) (H : Hp) (ss : List Slot) (vs : List V) : Gh := { R with H0 := H, io := ioFrom 0 ss vs }
abbrev entryE (n : Nat) (ss : List Slot) : En := ss ++ List.replicate (n - ss.length) Slot.nil
theorem entry_at {n : Nat} {ss : List Slot} {i : Nat} {s : Slot} (e : (entryE n ss)[i]? = some s) : (i < ss.length ∧ ss[i]? = some s) ∨ s = .nil := by
  by_cases h : i < ss.length
  · rw [List.getElem?_append_left h] at e
    exact .inl ⟨h, e⟩
  · rw [List.getElem?_append_right (by omega)] at e
    have := List.mem_of_getElem? e
    exact .inr (List.eq_of_mem_replicate this)
theorem start_at {N : List Str} {vs : List V} {i : Nat} {v : V} (e : vs[i]? = some v) : (L2.start N vs)[i]? = some (some v) := by
  have h := (List.getElem?_eq_some_iff.mp e).1
  unfold L2.start
  rw [List.getElem?_append_left (by simpa using h), List.getElem?_map, e]
  rfl
theorem entry_ok {N : List Str} {ss : List Slot} {vs : List V} (h : InsOk R H ss vs) (hn : ss.length ≤ N.length) (nd : ((ioFrom 0 ss vs).map (·.2)).Nodup) : EnvOk (entryG R H ss vs) (entryE N.length ss) (L2.start N vs) H := by
  have hl := h.len
  have hmut : ∀ (i : Nat) (s : Slot) (a : Addr), (entryE N.length ss)[i]? = some s → s.isMut = true → (L2.start N vs)[i]? = some (some (V.ref a)) → (i, a) ∈ ioFrom 0 ss vs := fun i s a e m q => by
    rcases entry_at e with ⟨hi, e'⟩ | rfl
    · obtain ⟨v, e2, q2⟩ := h.at e'
      rw [start_at e2] at q
      cases q
      cases s with
      | nil => cases m
      | val _ => cases m
      | own _ => exact q2.elim
      | io ds =>
        have := ioFrom_mem (k := 0) e' e2
        rwa [Nat.zero_add] at this
    · cases m
  refine ⟨?_, fun i s e => ?_, fun i j s t a e1 e2 m1 m2 q1 q2 => ?_, fun a o e _ => e, fun p hp => ?_⟩
  · unfold L2.start
    rw [List.length_append, List.length_append, List.length_replicate, List.length_replicate, List.length_map, hl]
  · rcases entry_at e with ⟨hi, e'⟩ | rfl
    · obtain ⟨v, e2, q2⟩ := h.at e'
      cases s with
      | nil => trivial
      | val d => exact ⟨v, start_at e2, q2⟩
      | own _ => exact q2.elim
      | io ds =>
        obtain ⟨a, xs, rfl, e3, e4⟩ := q2
        have := ioFrom_mem (k := 0) e' e2
        rw [Nat.zero_add] at this
        exact ⟨a, xs, start_at e2, e3, e4, this⟩
    · trivial
  · have := inj_map nd (hmut i s a e1 m1 q1) (hmut j t a e2 m2 q2) rfl
    exact (Prod.mk.inj this).1
  · obtain ⟨i, ds, e1, e2, e3⟩ := ioFrom_of hp
    rw [Nat.zero_add] at e1
    rw [e1]
    have hi := (List.getElem?_eq_some_iff.mp e2).1
    exact ⟨ds, by rw [List.getElem?_append_left hi]; exact e2, start_at e3⟩
theorem outs_ok {G : Gh} {e : En} {σ' : Sg} {H' : Hp} (E : EnvOk G e σ' H') : ∀ {ms : List Bool} {args ss : List Slot} {vs : List V} {outs : List (List D)} (k : Nat), argSlots ms args = some ss → ArgsOk R H args vs → (∀ p ∈ ioFrom k ss vs, p ∈ G.io) → outsOf ms (e.drop k) = some outs →
    OutsOk G.toRc H' (ownsOf args vs) outs
  | [], args, ss, vs, outs, k, h, a, hio, ho => by
    cases args with
    | nil =>
      cases vs with
      | nil =>
        have : outs = [] := by
          cases hh : e.drop k <;> (rw [hh] at ho; cases ho; rfl)
        subst this
        trivial
      | cons _ _ => exact a.elim
    | cons _ _ => cases h
  | m :: ms, [], ss, vs, outs, k, h, a, hio, ho => by cases m <;> cases h
  | m :: ms, s :: args, ss, [], outs, k, h, a, hio, ho => a.elim
  | m :: ms, s :: args, ss, v :: vs, outs, k, h, a, hio, ho => by
    obtain ⟨a1, a2⟩ := a
    cases he : e.drop k with
    | nil => rw [he] at ho; cases m <;> cases ho
    | cons t r =>
      have hr : r = e.drop (k + 1) := by
        have : (e.drop k).tail = e.drop (k + 1) := by rw [List.tail_drop]
        rw [he] at this
        exact this
      have ht : e[k]? = some t := by
        have : (e.drop k)[0]? = some t := by rw [he]; rfl
        rwa [List.getElem?_drop, Nat.add_zero] at this
      rw [he] at ho
      cases m with
      | true =>
        cases s with
        | own ds =>
          obtain ⟨ss', h1, rfl⟩ := map_some' (show (argSlots ms args).map (Slot.io ds :: ·) = some ss from h)
          obtain ⟨b, xs, rfl, e1, e2⟩ := a1
          have hb : (k, b) ∈ G.io := hio _ List.mem_cons_self
          obtain ⟨ds', f1, f2⟩ := E.iok _ hb
          simp only at f1 f2
          rw [ht] at f1
          cases f1
          obtain ⟨outs', g1, rfl⟩ := map_some' (show (outsOf ms r).map (ds' :: ·) = some outs from ho)
          obtain ⟨b', xs', z1, z2, z3, _⟩ := E.slot _ _ ht
          rw [f2] at z1
          cases z1
          rw [hr] at g1
          exact ⟨⟨xs', z2, z3⟩, outs_ok E (k + 1) h1 a2 (fun p hp => hio p (List.mem_cons_of_mem _ hp)) g1⟩
        | nil => cases h
        | val _ => cases h
        | io _ => cases h
      | false =>
        cases s with
        | val d =>
          obtain ⟨ss', h1, rfl⟩ := map_some' (show (argSlots ms args).map (Slot.val d :: ·) = some ss from h)
          have e1 : ioFrom k (.val d :: ss') (v :: vs) = ioFrom (k + 1) ss' vs := by cases v <;> rfl
          have e2 : ownsOf (.val d :: args) (v :: vs) = ownsOf args vs := by cases v <;> rfl
          rw [e2]
          rw [e1] at hio
          have g1 : outsOf ms r = some outs := by cases t <;> exact ho
          rw [hr] at g1
          exact outs_ok E (k + 1) h1 a2 hio g1
        | nil => cases h
        | own _ => cases h
        | io _ => cases h
theorem aft_ok {N : List Str} {ms : List Bool} {args ss : List Slot} {vs : List V} {e : En} {σ' : Sg} {H' : Hp} {outs : List (List D)} {r : Slot} {v : V} (ha : argSlots ms args = some ss) (hs : ArgsOk R H args vs) (E : EnvOk (entryG R H ss vs) e σ' H') (ho : outsOf ms e = some outs) (hr : RetOk R H H' r v) :
    Aft R H args vs r outs v H' := by
  obtain ⟨q1, q2, q3⟩ := argSlots_ok 0 ha hs
  refine ⟨hr, outs_ok (R := R) (H := H) E 0 ha hs (fun p hp => hp) (by rw [List.drop_zero]; exact ho), fun a o e1 hn => E.fr a o e1 (by rw [show (entryG R H ss vs).io.map (·.2) = ownsOf args vs from q2]; exact hn), fun a hn => ?_, trivial⟩
  by_cases hm : a ∈ (entryG R H ss vs).io.map (·.2)
  · obtain ⟨p, hp, rfl⟩ := List.mem_map.mp hm
    obtain ⟨ds, f1, f2⟩ := E.iok p hp
    obtain ⟨b, xs, z1, z2, _⟩ := E.slot _ _ f1
    rw [f2] at z1
    cases z1
    rw [hn] at z2
    cases z2
  · cases hh : H a with
    | none => rfl
    | some o =>
      have := E.fr a o hh hm
      rw [hn] at this
      cases this
end
end Pi

-- PiDef2
set_option maxHeartbeats 4000000
namespace Pi
open PySem PySem.Spec PyProof.Rows L2
structure DefF (T : Tab) (tab : Nat → Option CDef) (R : Rc) (j : Nat) (fd : FuncData) (ps : List Str) : Prop where
  ex : ∃ (x : Str) (params : Arguments) (body : List Stmt) (scope : Scope) (dvs : List V) (N : List Str) (d : CDef) (mE mS : Nat), tab j = some d ∧ FunD R.K x x params body scope dvs [] (R.fa j) fd ∧ FnScope N ps scope ∧
    d.mask.length = ps.length ∧ d.size = N.length ∧ mapS (cmpS N scope (cmpE T N mE scope) mS) body = some d.body
structure Mod (T : Tab) (tab : Nat → Option CDef) (R : Rc) (mg : Str → Option Value) : Prop where
  fns : ∀ (x : Str) (n j : Nat) (ms : List Bool) (dv : List D), (j, ms, dv) ∈ T.fn x n → ∃ fd ps, DefF T tab R j fd ps ∧ mg x = some (.ref (R.fa j)) ∧ ∃ (ds : List Value) (dvs : List V), Binds R.K fd ps ds ∧ Vals dvs ds ∧ ∀ H, Reps R H dvs dv
  cst : ∀ (x : Str) (d : D), T.cst x = some d → ∃ v u, mg x = some u ∧ RelV v u ∧ ∀ H, Rep R H v d
  fv : ∀ (x : Str) (j : Nat), T.fv x = some j → mg x = some (.ref (R.fa j))
  free : ∀ x ∈ freeNames, mg x = none
section
variable {T : Tab} {tab : Nat → Option CDef} {R : Rc} {mg : Str → Option Value} {P : Program} {w : World} {base : Heap} {L : Nat}
theorem argSlots_len : ∀ {ms : List Bool} {args ss : List Slot}, argSlots ms args = some ss → args.length = ms.length
  | [], [], _, _ => rfl
  | [], _ :: _, _, h => by cases h
  | m :: ms, [], _, h => by cases m <;> cases h
  | m :: ms, s :: args, ss, h => by
    cases m <;> cases s <;> try cases h
    · obtain ⟨ss', h1, _⟩ := map_some' (show (argSlots ms args).map (Slot.val _ :: ·) = some ss from h)
      simp [argSlots_len h1]
    · obtain ⟨ss', h1, _⟩ := map_some' (show (argSlots ms args).map (Slot.io _ :: ·) = some ss from h)
      simp [argSlots_len h1]
theorem call_succ {k j : Nat} {args : List Slot} {d : CDef} {x : Slot × List (List D)} (hd : tab j = some d) (h : call tab L (k + 1) j args = some x) : runDef (call tab L k) L d args = some x := by
  unfold call at h
  rw [hd] at h
  exact h
theorem defs_ok (M : Mod T tab R mg) : ∀ (k : Nat) (j : Nat) (fd : FuncData) (ps : List Str), DefF T tab R j fd ps → FnOk P w R.K mg base CX0 k (R.fa j) fd ps (spO R (call tab L k) j)
  | 0, j, fd, ps, F => ⟨fun vs H Q E h0 => (by obtain ⟨args, r, outs, _, _, h, _⟩ := h0; cases h), fun A outer s H args us vs Q E _ _ _ _ h0 => (by obtain ⟨args', r, outs, _, _, h, _⟩ := h0; cases h)⟩
  | k + 1, j, fd, ps, F => by
    obtain ⟨x, params, body, scope, dvs, N, d, mE, mS, hd, FD, S, hm, hsz, hc⟩ := F.ex
    refine FD.ok S (fun vs H Q E ⟨args, r, outs, ha, _, h, _⟩ => ?_) (fun cdv A outer s H vs Q E hr ⟨args, r, outs, ha, nd, h, q⟩ => ?_)
    · have h' := call_succ hd h
      unfold runDef at h'
      split at h'
      · rename_i ss hss
        rw [ha.length, argSlots_len hss, hm]
      · cases h'
    · have h' := call_succ hd h
      unfold runDef at h'
      split at h'
      · rename_i ss hss
        obtain ⟨q1, q2, q3⟩ := argSlots_ok 0 hss ha
        have hps : ps.length ≤ N.length := by have := congrArg List.length S.pre; rw [List.length_take] at this; omega
        have hle : ss.length ≤ N.length := by rw [q3, argSlots_len hss, hm]; exact hps
        have E0 := entry_ok (N := N) q1 hle (by rw [q2]; exact nd)
        refine ⟨tSs (entryG R H ss vs) (call tab L k) L d.body, PSs.nox ?_, entryE N.length ss, ?_⟩
        · have O : OkS T N (cxOf CX0 P w R.K mg base N x scope (R.fa j) cdv A outer s H E).nox (entryG R H ss vs).toRc (call tab L k) scope :=
            ⟨{ nm := rfl, nd := S.nd, sc := rfl, calm := rfl, K := rfl, un := hr.units, fns := fun y n j' ms dv hf => by
                obtain ⟨fd', ps', F', hmg, ds, dvs', hb, hv, hrp⟩ := M.fns y n j' ms dv hf
                obtain ⟨_, _, _, _, _, _, _, _, _, _, FD', _⟩ := F'.ex
                exact ⟨k, fd', ps', ds, dvs', defs_ok M k j' fd' ps' F', hr, hmg, FD'.kp, hb, hv, hrp⟩
               cst := M.cst, fv := M.fv, free := M.free }, ⟨fun _ h => h, fun _ h => ⟨h, rfl⟩⟩, rfl, S.kind⟩
          exact mapS_ok (fun st c hst => cmpS_ok O mS st c hst) hc
        · rw [hsz] at h'
          split at h'
          · rename_i e he
            obtain ⟨o, ho, e2⟩ := map_some' h'
            cases e2
            refine ⟨_, E0, he, fun σ' H' E' kp => q _ _ (aft_ok (N := N) hss ha E' ho ?_)⟩
            exact rfl
          · rename_i r' e he
            obtain ⟨o, ho, e2⟩ := map_some' h'
            cases e2
            exact ⟨_, E0, he, fun v σ' H' E' hret => q _ _ (aft_ok (N := N) hss ha E' ho hret)⟩
          · cases h'
      · cases h'
end
end Pi

-- PiMod
set_option maxHeartbeats 4000000
namespace Pi
open PySem PySem.Spec PyProof.Rows L2
structure TDef where
  x : Str
  st : Stmt
  N : List Str
  mask : List Bool
  code : CSs
def fnParams (st : Stmt) : List Str := (defArgs st).posonlyargs.map (·.arg) ++ (defArgs st).args.map (·.arg)
def TDef.ps (d : TDef) : List Str := fnParams d.st
def findDef (x : Str) (n : Nat) : List TDef → Nat → List (Nat × List Bool × List D) → List (Nat × List Bool × List D)
  | [], _, acc => acc
  | d :: ds, i, acc => findDef x n ds (i + 1) (if d.x = x ∧ n = d.mask.length then (i, d.mask, []) :: acc else acc)
theorem findDef_at {x : Str} {n : Nat} : ∀ {ds : List TDef} {i : Nat} {acc : List (Nat × List Bool × List D)} {p : Nat × List Bool × List D}, p ∈ findDef x n ds i acc → p ∈ acc ∨ ∃ k d, p = (i + k, d.mask, []) ∧ ds[k]? = some d ∧ d.x = x
  | [], i, acc, p, h => .inl h
  | d :: ds, i, acc, p, h => by
    rcases findDef_at (show p ∈ findDef x n ds (i + 1) _ from h) with h | ⟨k, d', h1, h2, h3⟩
    · split at h
      · rename_i hx
        rcases List.mem_cons.mp h with h | h
        · exact .inr ⟨0, d, h, rfl, hx.1⟩
        · exact .inl h
      · exact .inl h
    · exact .inr ⟨k + 1, d', by rw [h1]; congr 1; omega, by simpa using h2, h3⟩
def lookC (x : Str) : List (Str × Int) → Option Int
  | [] => none
  | p :: ps => if p.1 = x then some p.2 else lookC x ps
theorem lookC_mem {x : Str} {i : Int} : ∀ {l : List (Str × Int)}, lookC x l = some i → (x, i) ∈ l
  | [], h => by cases h
  | p :: ps, h => by
    unfold lookC at h
    split at h
    · rename_i hx
      cases h
      subst hx
      exact List.mem_cons_self
    · exact List.mem_cons_of_mem _ (lookC_mem h)
def TOf (ds : List TDef) (cs : List (Str × Int)) : Tab where
  fn x n := findDef x n ds 0 []
  cst x := match lookC x cs with
    | some i => some (.int i)
    | none => none
  fv _ := none
def tabOf (ds : List TDef) (j : Nat) : Option CDef := match ds[j]? with
  | some d => some ⟨d.mask, d.N.length, d.code⟩
  | none => none
structure TDef.Ok (T : Tab) (d : TDef) : Prop where
  comp : mapS (cmpS d.N (defScope d.st) (cmpE T d.N 40 (defScope d.st)) 40) (defBody d.st) = some d.code
  sc : FnScope d.N d.ps (defScope d.st)
  len : d.mask.length = d.ps.length
  bind : ∀ (kV doc pm : Value) (an : Option Addr) (cdv ct : Value) (us : List Value), us.length = d.ps.length → bindArgs (PySem.W.fnOf d.x d.x (defArgs d.st) (defBody d.st) (defScope d.st) .none kV doc pm an cdv ct) ⟨us, []⟩ = pure (d.ps.zip us)
def TDef.dd (d : TDef) : He.DefD := ⟨(d.x, none), d.x, d.x, defArgs d.st, defBody d.st, defScope d.st, [], []⟩
def fnL (ds : List TDef) : List He.DefD := ds.map TDef.dd
def faL (ds : List TDef) (cs : List (Str × Int)) : List He.Fa := ds.map (fun d => .glo d.x) ++ (cs.map (fun p => .int p.1 p.2) ++ freeNames.map .free)
def rcOf (K : PySem.W.Frag) (ds : List TDef) : Rc := ⟨K, fun j => match ds[j]? with
  | some d => He.fAd K (d.x, none)
  | none => 0⟩
theorem fact_mem {fa : List He.Fa} {fn : List He.DefD} {K : PySem.W.Frag} (c : He.SaysD fa fn K) {f : He.Fa} (h : f ∈ fa) : f.ok K = true := by
  obtain ⟨i, hi⟩ := List.mem_iff_getElem?.mp h
  exact c.fact i hi
theorem mod_ok {ds : List TDef} {cs : List (Str × Int)} {K : PySem.W.Frag} {h : Heap} {mg : Str → Option Value} (X : K.In h) (G : h.Ns mainGlobals mg) (c : He.SaysD (faL ds cs) (fnL ds) K) (ok : ∀ d ∈ ds, d.Ok (TOf ds cs)) :
    Mod (TOf ds cs) (tabOf ds) (rcOf K ds) mg ∧ ∀ (j : Nat) (d : TDef), ds[j]? = some d → ∃ fd, DefF (TOf ds cs) (tabOf ds) (rcOf K ds) j fd d.ps ∧ mg d.x = some (.ref ((rcOf K ds).fa j)) ∧ Binds K fd d.ps [] ∧ (∀ (s : Shared) (us : List Value), us.length = d.ps.length → BindsTo s fd ⟨us, []⟩ (d.ps.zip us)) := by
  have all : ∀ (j : Nat) (d : TDef), ds[j]? = some d → ∃ fd, DefF (TOf ds cs) (tabOf ds) (rcOf K ds) j fd d.ps ∧ mg d.x = some (.ref ((rcOf K ds).fa j)) ∧ Binds K fd d.ps [] ∧ (∀ (s : Shared) (us : List Value), us.length = d.ps.length → BindsTo s fd ⟨us, []⟩ (d.ps.zip us)) := fun j d hd => by
    have hm := List.mem_of_getElem? hd
    have o := ok d hm
    obtain ⟨fd, F⟩ := c.def_ j (d := d.dd) (by unfold fnL; rw [List.getElem?_map, hd]; rfl)
    have hf : (rcOf K ds).fa j = He.fAd K (d.x, none) := by
      show (match ds[j]? with | some d => He.fAd K (d.x, none) | none => 0) = _
      rw [hd]
    refine ⟨fd, ⟨d.x, defArgs d.st, defBody d.st, defScope d.st, [], d.N, ⟨d.mask, d.N.length, d.code⟩, 40, 40, ?_, ?_, o.sc, o.len, rfl, o.comp⟩, ?_, F.bindsN o.bind, fun s us hl => F.bindsA o.bind s us hl⟩
    · unfold tabOf
      rw [hd]
    · rw [hf]
      exact F
    · rw [hf]
      exact He.glo_ok X G (fact_mem c (f := .glo d.x) (List.mem_append_left _ (List.mem_map.mpr ⟨d, hm, rfl⟩)))
  refine ⟨⟨fun x n j ms dv hx => ?_, fun x d hx => ?_, fun x j hx => (nomatch hx), fun x hx => ?_⟩, all⟩
  · rcases findDef_at (show (j, ms, dv) ∈ findDef x n ds 0 [] from hx) with h | ⟨k, d, e1, e2, e3⟩
    · cases h
    · cases e1
      obtain ⟨fd, F, hmg, hb, _⟩ := all k d e2
      rw [Nat.zero_add]
      exact ⟨fd, d.ps, F, by rw [← e3]; exact hmg, [], [], hb, .nil, fun _ => trivial⟩
  · unfold TOf at hx
    simp only at hx
    split at hx
    · rename_i i hi
      cases hx
      obtain ⟨t, ht⟩ := He.int_ok X G (fact_mem c (f := .int x i) (List.mem_append_right _ (List.mem_append_left _ (List.mem_map.mpr ⟨(x, i), lookC_mem hi, rfl⟩))))
      exact ⟨.int i, _, ht, ⟨t, rfl⟩, fun H => rfl⟩
    · cases hx
  · exact He.free_ok X G (fact_mem c (f := .free x) (List.mem_append_right _ (List.mem_append_right _ (List.mem_map.mpr ⟨x, hx, rfl⟩))))
def spLaw (R : Rc) (tab : Nat → Option CDef) (k j : Nat) : Sp := fun vs H Q E => ∃ L, spO R (call tab L k) j vs H Q E
theorem law_fn {T : Tab} {tab : Nat → Option CDef} {R : Rc} {mg : Str → Option Value} {P : Program} {w : World} {base : Heap} (M : Mod T tab R mg) (k j : Nat) {fd : FuncData} {ps : List Str} (F : DefF T tab R j fd ps) : FnOk P w R.K mg base CX0 k (R.fa j) fd ps (spLaw R tab k j) :=
  ⟨fun vs H Q E ⟨L, h⟩ => (defs_ok (P := P) (w := w) (base := base) (L := L) M k j fd ps F).len vs H Q E h, fun A outer s H args us vs Q E hr h0 hb hv ⟨L, h⟩ => (defs_ok (P := P) (w := w) (base := base) (L := L) M k j fd ps F).run A outer s H args us vs Q E hr h0 hb hv h⟩
theorem ints_reps {R : Rc} {H : Hp} : ∀ (ns : List Int), Reps R H (ns.map V.int) (ns.map D.int)
  | [] => trivial
  | n :: ns => ⟨rfl, ints_reps ns⟩
theorem spLaw_of {R : Rc} {tab : Nat → Option CDef} {k j : Nat} {ns : List Int} {a : Addr} {H : Hp} {E : XK} (hO : Only H) (hS : SqL R.K H a (ns.map V.int)) (h : ∃ L, call tab L k j [.val (.ls (ns.map D.int))] = some (.val (.bl true), [])) :
    spLaw R tab k j [.ref a] H (fun v _ => v = .bl true) E := by
  obtain ⟨L, h⟩ := h
  have fz : Fz R.K H a (ns.map V.int) := by
    rcases hS with (hS | hS) | hS
    · rcases hO a with e | ⟨o, xs, e⟩ <;> (rw [e] at hS; cases hS)
    · exact .inl hS
    · exact .inr hS
  refine ⟨L, [.val (.ls (ns.map D.int))], _, _, ⟨rep_ls.mpr ⟨a, _, rfl, fz, ints_reps ns⟩, trivial⟩, List.nodup_nil, h, fun v H' A => ?_⟩
  exact A.ret
end Pi

-- PiRun
set_option maxHeartbeats 4000000
namespace Pi
open PySem
section
variable {β : Type}
def bindE (x : Option (Slot × En)) (f : Slot → En → Option β) (_u : Dum f := ()) : Option β := match x with
  | some (s, e) => f s e
  | none => none
def bindO {α : Type} (x : Option α) (f : α → Option β) (_u : Dum f := ()) : Option β := match x with
  | some s => f s
  | none => none
def bindF (x : Option Flo) (f : En → Option Flo) (_u : Dum f := ()) : Option Flo := match x with
  | some (.nx e) => f e
  | y => y
def guardB (b : Bool) (x : Option β) (_u : Dum x := ()) : Option β := if b = true then x else none
theorem guardB_t {x : Option β} : guardB true x = x := rfl
theorem guardB_f {x : Option β} : guardB false x = none := rfl
theorem bindE_some {s : Slot} {e : En} {f : Slot → En → Option β} : bindE (some (s, e)) f = f s e := rfl
theorem bindE_none {f : Slot → En → Option β} : bindE none f = none := rfl
theorem bindV_none {f : D → En → Option β} : bindV none f = none := rfl
theorem bindB_none {f : Bool → En → Option β} : bindB none f = none := rfl
theorem bindO_some {α : Type} {s : α} {f : α → Option β} : bindO (some s) f = f s := rfl
theorem bindO_none {α : Type} {f : α → Option β} : bindO none f = none := rfl
theorem bindF_nx {e : En} {f : En → Option Flo} : bindF (some (.nx e)) f = f e := rfl
theorem bindF_rt {r : Slot} {e : En} {f : En → Option Flo} : bindF (some (.rt r e)) f = some (.rt r e) := rfl
theorem bindF_bk {e : En} {f : En → Option Flo} : bindF (some (.bk e)) f = some (.bk e) := rfl
theorem bindF_ct {e : En} {f : En → Option Flo} : bindF (some (.ct e)) f = some (.ct e) := rfl
theorem bindF_none {f : En → Option Flo} : bindF none f = none := rfl
end
section
variable (cl : Oracle) (L : Nat)
def doW (c : CE) (b : CSs) (m : Nat) (env : En) : Option Flo := whlLoop (evalT cl c) (evalSs cl L b) m env
def doF (t : Tg) (b : CSs) (xs : List D) (env : En) : Option Flo := forLoop (bodyAt t fun e => evalSs cl L b e) xs env
def doC (elt : CE) (t : Tg) (cond : CE) (vs : List Nat) (xs : List D) (env : En) (acc : List D) : Option (List D × En) := lcLoop (fun x e => match bindTg t x e with
        | some e3 => bindB (evalT cl cond e3) fun b e4 => if b then bindV (evalE cl elt e4) fun d e5 => (wipeEn e5 vs).map fun e6 => (some d, e6) else (wipeEn e4 vs).map fun e6 => (none, e6)
        | none => none) xs env acc
end
section
variable {cl : Oracle} {L : Nat} {env : En}
theorem r_var {i : Nat} : evalE cl (.var i) env = bindO env[i]? fun s => match s with
    | .val d => some (.val d, env)
    | .own ds => some (.val (.ls ds), env.set i (.val (.ls ds)))
    | _ => none := by
  rw [evalE]
  cases env[i]? with
  | none => rfl
  | some s => cases s <;> rfl
theorem r_cst {d : D} : evalE cl (.cst d) env = some (.val d, env) := by rw [evalE]
theorem r_gc {x : Str} {d : D} : evalE cl (.gc x d) env = some (.val d, env) := by rw [evalE]
theorem r_gf {x : Str} {j : Nat} : evalE cl (.gf x j) env = some (.val (.fn j), env) := by rw [evalE]
theorem r_bin {o : BOp} {a b : CE} : evalE cl (.bin o a b) env = bindV (evalE cl a env) fun x e1 => bindV (evalE cl b e1) fun y e2 => bindO (evalBin o x y) fun s => some (s, e2) := by
  rw [evalE]; first | rfl | (congr; funext x e1; congr; funext y e2; cases evalBin o x y <;> rfl)
theorem r_neg {a : CE} : evalE cl (.neg a) env = bindV (evalE cl a env) fun x e1 => match x with
    | .int i => some (.val (.int (-i)), e1)
    | _ => none := by rw [evalE] <;> rfl
theorem r_cmp {o : COp} {a b : CE} : evalE cl (.cmp o a b) env = bindV (evalE cl a env) fun x e1 => bindV (evalE cl b e1) fun y e2 => bindO (evalCmp o x y) fun s => some (.val (.bl s), e2) := by
  rw [evalE]; first | rfl | (congr; funext x e1; congr; funext y e2; cases evalCmp o x y <;> rfl)
theorem r_chain {o o' : COp} {a b c : CE} : evalE cl (.chain o o' a b c) env = bindV (evalE cl a env) fun x e1 => bindV (evalE cl b e1) fun y e2 => bindO (evalCmp o x y) fun k => if k = true then bindV (evalE cl c e2) fun z e3 => bindO (evalCmp o' y z) fun s => some (.val (.bl s), e3) else some (.val (.bl false), e2) := by
  rw [evalE]; first | rfl | (congr; funext x e1; congr; funext y e2)
  cases evalCmp o x y with
  | none => rfl
  | some k =>
    cases k
    · rfl
    · show bindV _ _ = _
      simp only [bindO_some, if_true]
      first | rfl | (congr; funext z e3; cases evalCmp o' y z <;> rfl)
theorem r_isN {n : Bool} {a : CE} : evalE cl (.isN n a) env = bindV (evalE cl a env) fun x e1 => some (.val (.bl (if n then !x.isNon else x.isNon)), e1) := by rw [evalE]
theorem r_and {a b : CE} : evalE cl (.and a b) env = bindV (evalE cl a env) fun x e1 => match x with
    | .bl true => bindV (evalE cl b e1) fun y e2 => some (.val y, e2)
    | .bl false => some (.val (.bl false), e1)
    | _ => none := by rw [evalE] <;> rfl
theorem r_or {a b : CE} : evalE cl (.or a b) env = bindV (evalE cl a env) fun x e1 => match x with
    | .bl false => bindV (evalE cl b e1) fun y e2 => some (.val y, e2)
    | .bl true => some (.val (.bl true), e1)
    | _ => none := by rw [evalE] <;> rfl
theorem r_not {a : CE} : evalE cl (.not a) env = bindV (evalE cl a env) fun x e1 => bindO x.truth fun b => some (.val (.bl (!b)), e1) := by
  rw [evalE]; first | rfl | (congr; funext x e1; cases x.truth <;> rfl)
theorem r_ife {c a b : CE} : evalE cl (.ife c a b) env = bindB (evalT cl c env) fun x e1 => if x = true then evalE cl a e1 else evalE cl b e1 := by rw [evalE]
theorem r_tup {es : CEs} : evalE cl (.tup es) env = bindDs (evalEs cl es env) fun ds e1 => guardB (decide (ds.length ≤ sizeLine)) (some (.val (.tup ds), e1)) := by
  rw [evalE]; congr; funext ds e1; unfold guardB; simp
theorem r_lst {es : CEs} : evalE cl (.lst es) env = bindDs (evalEs cl es env) fun ds e1 => guardB (decide (ds.length ≤ sizeLine)) (some (.own ds, e1)) := by
  rw [evalE]; congr; funext ds e1; unfold guardB; simp
theorem r_ix {a i : CE} : evalE cl (.ix a i) env = bindV (evalE cl a env) fun x e1 => bindV (evalE cl i e1) fun y e2 => bindO (ixD x y) fun d => some (.val d, e2) := by
  rw [evalE]; first | rfl | (congr; funext x e1; congr; funext y e2; cases ixD x y <;> rfl)
theorem r_ixv {k : Nat} {i : CE} : evalE cl (.ixv k i) env = guardB (readAt env k).isSome (bindV (evalE cl i env) fun y e1 => bindO (readAt e1 k) fun x => bindO (ixD x y) fun d => some (.val d, e1)) := by
  rw [evalE]
  unfold guardB
  congr; funext y e1
  cases readAt e1 k with
  | none => rfl
  | some x => show Option.map _ (ixD x y) = bindO (ixD x y) _; cases ixD x y <;> rfl
theorem r_sl {a lo hi : CE} : evalE cl (.sl a lo hi) env = bindV (evalE cl a env) fun x e1 => bindV (evalE cl lo e1) fun l e2 => bindV (evalE cl hi e2) fun h e3 => bindO (slD x l h) fun s => some (s, e3) := by
  rw [evalE]; first | rfl | (congr; funext x e1; congr; funext y e2; congr; funext z e3; cases slD x y z <;> rfl)
theorem r_slv {k : Nat} {lo hi : CE} : evalE cl (.slv k lo hi) env = guardB (readAt env k).isSome (bindV (evalE cl lo env) fun l e2 => bindV (evalE cl hi e2) fun h e3 => bindO (readAt e3 k) fun x => bindO (slD x l h) fun s => some (s, e3)) := by
  rw [evalE]
  unfold guardB
  congr; funext y e1; congr; funext z e3
  cases readAt e3 k with
  | none => rfl
  | some x => show Option.map _ (slD x y z) = bindO (slD x y z) _; cases slD x y z <;> rfl
theorem r_rev {a : CE} : evalE cl (.rev a) env = bindV (evalE cl a env) fun x e1 => bindO (revD x) fun s => some (s, e1) := by
  rw [evalE]; first | rfl | (congr; funext x e1; cases revD x <;> rfl)
theorem r_call {j : Nat} {es : CEs} {dv : List D} : evalE cl (.call j es dv) env = bindSs (evalAs cl es env) fun ss e1 => bindO (cl j (ss ++ dv.map .val)) fun p => bindO (putLists e1 (iosOf es) p.2) fun e2 => some (p.1, e2) := by
  rw [evalE]; first | rfl | (congr; funext ss e1)
  cases cl j (ss ++ dv.map .val) with
  | none => rfl
  | some p => obtain ⟨r, outs⟩ := p; show Option.map _ (putLists e1 (iosOf es) outs) = bindO (putLists e1 (iosOf es) outs) _; cases putLists e1 (iosOf es) outs <;> rfl
theorem r_bi {b : BI} {es : CEs} : evalE cl (.bi b es) env = bindDs (evalEs cl es env) fun ds e1 => bindO (evalBI b ds) fun s => some (s, e1) := by
  rw [evalE]; first | rfl | (congr; funext ds e1; cases evalBI b ds <;> rfl)
theorem r_lenv {k : Nat} : evalE cl (.lenv k) env = bindO (readAt env k) fun d => bindO (evalBI .len [d]) fun s => some (s, env) := by
  rw [evalE]
  cases readAt env k with
  | none => rfl
  | some d => show Option.map _ (evalBI .len [d]) = bindO (evalBI .len [d]) _; cases evalBI .len [d] <;> rfl
theorem r_isi {a : CE} {t : Ty} : evalE cl (.isi a t) env = bindV (evalE cl a env) fun x e1 => bindO (isTy t x) fun b => some (.val (.bl b), e1) := by
  rw [evalE]; first | rfl | (congr; funext x e1; cases isTy t x <;> rfl)
theorem r_lc {elt : CE} {tg : Tg} {it : CI} {cond : CE} {vs : List Nat} : evalE cl (.lc elt tg it cond vs) env = bindDs (evalI cl it env) fun xs e1 => bindO (wipeEn e1 vs) fun e2 => bindO (doC cl elt tg cond vs xs e2 []) fun p => some (.own p.1, restore e1 p.2 vs) := by
  rw [evalE]; first | rfl | (congr; funext xs e1)
  cases wipeEn e1 vs with
  | none => rfl
  | some e2 => show Option.map _ (doC cl elt tg cond vs xs e2 []) = bindO (doC cl elt tg cond vs xs e2 []) _; cases doC cl elt tg cond vs xs e2 [] <;> rfl
theorem r_pop {i : Nat} : evalE cl (.pop i) env = bindO (listAt env i) fun ds => bindO ds.getLast? fun d => bindO (putList env i ds.dropLast) fun e1 => some (.val d, e1) := by
  rw [evalE]
  cases listAt env i with
  | none => rfl
  | some ds =>
    show (match ds.getLast? with | some d => _ | none => none) = bindO ds.getLast? _
    cases ds.getLast? with
    | none => rfl
    | some d => show Option.map _ (putList env i ds.dropLast) = bindO (putList env i ds.dropLast) _; cases putList env i ds.dropLast <;> rfl
theorem r_callv {i : Nat} {es : CEs} : evalE cl (.callv i es) env = bindO env[i]? fun s => match s with
    | .val (.fn j) => bindDs (evalEs cl es env) fun ds e1 => bindO (cl j (ds.map .val)) fun p => match p.2 with
      | [] => some (p.1, e1)
      | _ => none
    | _ => none := by
  rw [evalE]
  cases env[i]? with
  | none => rfl
  | some s =>
    cases s with
    | val d =>
      cases d <;> try rfl
      rename_i j
      show bindDs _ _ = bindDs _ _
      congr; funext ds e1
      cases cl j (ds.map .val) with
      | none => rfl
      | some p => obtain ⟨r, o⟩ := p; cases o <;> rfl
    | nil => rfl
    | own _ => rfl
    | io _ => rfl
theorem r_enil : evalEs cl .nil env = some ([], env) := by rw [evalEs]
theorem r_econs {e : CE} {es : CEs} : evalEs cl (.cons e es) env = bindV (evalE cl e env) fun d e1 => bindDs (evalEs cl es e1) fun ds e2 => some (d :: ds, e2) := by rw [evalEs]
theorem r_anil : evalAs cl .nil env = some ([], env) := by rw [evalAs]
theorem r_aio {i : Nat} {es : CEs} : evalAs cl (.cons (.io i) es) env = guardB (listAt env i).isSome (bindSs (evalAs cl es env) fun ss e1 => bindO (listAt e1 i) fun ds => some (.own ds :: ss, e1)) := by
  rw [evalAs]
  unfold guardB
  congr; funext ss e1
  cases listAt e1 i <;> rfl
def ioB : CE → Bool
  | .io _ => true
  | _ => false
theorem r_acons {e : CE} {es : CEs} (h : ioB e = false) : evalAs cl (.cons e es) env = bindV (evalE cl e env) fun d e1 => bindSs (evalAs cl es e1) fun ds e2 => some (.val d :: ds, e2) := by
  cases e <;> first | cases h; done | rw [evalAs]
  all_goals (intro i hi; cases hi)
theorem t_and' {a b : CE} : evalT cl (.and a b) env = bindB (evalT cl a env) fun x e1 => if x = true then evalT cl b e1 else some (false, e1) := by rw [evalT]
theorem t_or' {a b : CE} : evalT cl (.or a b) env = bindB (evalT cl a env) fun x e1 => if x = true then some (true, e1) else evalT cl b e1 := by rw [evalT]
theorem t_not' {a : CE} : evalT cl (.not a) env = bindB (evalT cl a env) fun x e1 => some (!x, e1) := by rw [evalT]
theorem t_var' {i : Nat} : evalT cl (.var i) env = bindO (readAt env i) fun d => bindO d.truth fun b => some (b, env) := by
  rw [evalT]
  cases readAt env i with
  | none => rfl
  | some d => show Option.map _ d.truth = bindO d.truth _; cases d.truth <;> rfl
theorem t_cst {b : Bool} : evalT cl (.cst (.bl b)) env = some (b, env) := by rw [evalT]
def byV : CE → Bool
  | .bin .. | .neg .. | .cmp .. | .chain .. | .isN .. | .ix .. | .ixv .. | .call .. | .bi .. | .isi .. => true
  | _ => false
theorem t_val' {c : CE} (h : byV c = true) : evalT cl c env = bindV (evalE cl c env) fun d e1 => bindO d.truth fun b => some (b, e1) := by
  have e : ∀ (x : Option (Slot × En)), (bindV x fun d e1 => d.truth.map fun b => (b, e1)) = bindV x fun d e1 => bindO d.truth fun b => some (b, e1) := fun x => by
    rfl
  cases c <;> first | exact absurd h Bool.false_ne_true | (rw [evalT]; exact e _)
theorem r_sq {e : CE} : evalI cl (.sq e) env = bindV (evalE cl e env) fun d e1 => bindO d.items fun ds => some (ds, e1) := by
  rw [evalI]; first | rfl | (congr; funext d e1; cases d.items <;> rfl)
theorem r_rg1 {a : CE} : evalI cl (.rg1 a) env = bindV (evalE cl a env) fun d e1 => match d with
    | .int j => guardB (decide (Small j ∧ j ≤ sizeLine)) (some (rangeD 0 j.toNat, e1))
    | _ => none := by
  rw [evalI]; congr; funext d e1; cases d <;> first | rfl | (unfold guardB; simp)
theorem r_rg2 {a b : CE} : evalI cl (.rg2 a b) env = bindV (evalE cl a env) fun d e1 => bindV (evalE cl b e1) fun d' e2 => match d, d' with
    | .int i, .int j => guardB (decide (Small i ∧ Small j ∧ j - i ≤ sizeLine)) (some (rangeD i (j - i).toNat, e2))
    | _, _ => none := by
  rw [evalI]; congr; funext d e1; congr; funext d' e2; cases d <;> cases d' <;> first | rfl | (unfold guardB; simp)
theorem r_rg3 {a b c : CE} : evalI cl (.rg3 a b c) env = bindV (evalE cl a env) fun d e1 => bindV (evalE cl b e1) fun d' e2 => bindV (evalE cl c e2) fun d'' e3 => match d, d', d'' with
    | .int i, .int j, .int c => bindO (rangeStep i j c) fun ds => some (ds, e3)
    | _, _, _ => none := by
  rw [evalI]; first | rfl | (congr; funext d e1; congr; funext d' e2; congr; funext d'' e3; cases d <;> cases d' <;> cases d'' <;> rfl)
theorem r_en {e : CE} : evalI cl (.en e) env = bindV (evalE cl e env) fun d e1 => match d with
    | .ls ds => some (enumD ds, e1)
    | _ => none := by rw [evalI] <;> rfl
theorem r_zip {a b : CE} : evalI cl (.zip a b) env = bindV (evalE cl a env) fun d e1 => bindV (evalE cl b e1) fun d' e2 => match d, d' with
    | .tup xs, .tup ys => some (zipD xs ys, e2)
    | .ls xs, .ls ys => some (zipD xs ys, e2)
    | _, _ => none := by rw [evalI] <;> rfl
theorem r_snil : evalSs cl L .nil env = some (.nx env) := by rw [evalSs]
theorem r_scons {s : CS} {ss : CSs} : evalSs cl L (.cons s ss) env = bindF (evalS cl L s env) fun e1 => evalSs cl L ss e1 := by
  rw [evalSs]
  cases evalS cl L s env with
  | none => rfl
  | some f => cases f <;> rfl
theorem r_asg {i : Nat} {e : CE} : evalS cl L (.asg (.nm i) e) env = bindE (evalE cl e env) fun s e1 => bindO (setSlot e1 i s) fun e2 => some (.nx e2) := by
  rw [evalS]
  cases evalE cl e env with
  | none => rfl
  | some p => obtain ⟨s, e1⟩ := p; show Option.map _ (setSlot e1 i s) = bindO (setSlot e1 i s) _; cases setSlot e1 i s <;> rfl
theorem r_asgt {is : List Nat} {e : CE} : evalS cl L (.asg (.tp is) e) env = bindV (evalE cl e env) fun d e1 => bindO (bindTg (.tp is) d e1) fun e2 => some (.nx e2) := by
  rw [evalS]; first | rfl | (congr; funext d e1; cases bindTg (.tp is) d e1 <;> rfl)
theorem r_lnil : evalSl cl .nil env = some ([], env) := by rw [evalSl]
theorem r_lcons {e : CE} {es : CEs} : evalSl cl (.cons e es) env = bindE (evalE cl e env) fun s e1 => bindSs (evalSl cl es e1) fun ss e2 => some (s :: ss, e2) := by
  rw [evalSl]
  cases evalE cl e env with
  | none => rfl
  | some p => rfl
theorem r_asl {is : List Nat} {es : CEs} : evalS cl L (.asl is es) env = bindSs (evalSl cl es env) fun ss e1 => bindO (setSlots e1 is ss) fun e2 => some (.nx e2) := by
  rw [evalS]; first | rfl | (congr; funext ss e1; cases setSlots e1 is ss <;> rfl)
theorem r_setix {i : Nat} {k e : CE} : evalS cl L (.setix i k e) env = bindV (evalE cl e env) fun d e1 => guardB (listAt e1 i).isSome (bindV (evalE cl k e1) fun y e2 => bindO (listAt e2 i) fun ds => match y with
    | .int n => bindO (L2.ixN ds.length n) fun j => bindO (putList e2 i (ds.set j d)) fun e3 => some (.nx e3)
    | _ => none) := by
  rw [evalS]; first | rfl | (congr; funext d e1)
  unfold guardB
  congr; funext y e2
  cases listAt e2 i with
  | none => cases y <;> rfl
  | some ds =>
    cases y <;> try rfl
    rename_i n
    show (match L2.ixN ds.length n with | some j => _ | none => none) = bindO (L2.ixN ds.length n) _
    cases L2.ixN ds.length n with
    | none => rfl
    | some j => show Option.map _ (putList e2 i (ds.set j d)) = bindO (putList e2 i (ds.set j d)) _; cases putList e2 i (ds.set j d) <;> rfl
theorem r_app {i : Nat} {e : CE} : evalS cl L (.app i e) env = guardB (listAt env i).isSome (bindV (evalE cl e env) fun d e1 => bindO (listAt e1 i) fun ds => guardB (decide (ds.length < sizeLine)) (bindO (putList e1 i (ds ++ [d])) fun e2 => some (.nx e2))) := by
  rw [evalS]
  unfold guardB
  congr; funext d e1
  cases listAt e1 i with
  | none => rfl
  | some ds =>
    show (if ds.length < sizeLine then Option.map _ (putList e1 i (ds ++ [d])) else none) = if decide (ds.length < sizeLine) = true then bindO (putList e1 i (ds ++ [d])) _ else none
    simp only [decide_eq_true_eq]
    rfl
theorem r_ext {i : Nat} {e : CE} : evalS cl L (.ext i e) env = guardB (listAt env i).isSome (bindE (evalE cl e env) fun s e1 => match s with
    | .own zs => bindO (listAt e1 i) fun ds => guardB (decide (ds.length + zs.length ≤ sizeLine)) (bindO (putList e1 i (ds ++ zs)) fun e2 => some (.nx e2))
    | _ => none) := by
  rw [evalS]
  unfold guardB
  congr
  cases evalE cl e env with
  | none => rfl
  | some p =>
    obtain ⟨s, e1⟩ := p
    cases s <;> try rfl
    rename_i zs
    show (match listAt e1 i with | some ds => _ | none => none) = bindO (listAt e1 i) _
    cases listAt e1 i with
    | none => rfl
    | some ds =>
      show (if ds.length + zs.length ≤ sizeLine then Option.map _ (putList e1 i (ds ++ zs)) else none) = if decide (ds.length + zs.length ≤ sizeLine) = true then bindO (putList e1 i (ds ++ zs)) _ else none
      simp only [decide_eq_true_eq]
      rfl
theorem r_drop {e : CE} : evalS cl L (.drop e) env = bindE (evalE cl e env) fun _ e1 => some (.nx e1) := by
  rw [evalS]
  cases evalE cl e env <;> rfl
theorem r_ret {e : CE} : evalS cl L (.ret e) env = bindE (evalE cl e env) fun s e1 => some (.rt s e1) := by
  rw [evalS]
  cases evalE cl e env <;> rfl
theorem r_retv {i : Nat} : evalS cl L (.retv i) env = bindO env[i]? fun s => match s with
    | .val d => some (.rt (.val d) env)
    | .own ds => some (.rt (.own ds) (env.set i .nil))
    | _ => none := by
  rw [evalS]
  cases env[i]? with
  | none => rfl
  | some s => cases s <;> rfl
theorem r_ret0 : evalS cl L .ret0 env = some (.rt (.val .non) env) := by rw [evalS]
theorem r_if {c : CE} {a b : CSs} : evalS cl L (.ife c a b) env = bindB (evalT cl c env) fun x e1 => if x = true then evalSs cl L a e1 else evalSs cl L b e1 := by rw [evalS]
theorem r_whl {c : CE} {b : CSs} : evalS cl L (.whl c b) env = doW cl L c b L env := by rw [evalS] <;> rfl
theorem r_fr {t : Tg} {it : CI} {b : CSs} : evalS cl L (.fr t it b) env = bindDs (evalI cl it env) fun xs e1 => doF cl L t b xs e1 := by rw [evalS] <;> rfl
theorem r_brk : evalS cl L .brk env = some (.bk env) := by rw [evalS]
theorem r_cnt : evalS cl L .cnt env = some (.ct env) := by rw [evalS]
theorem r_pass : evalS cl L .pass env = some (.nx env) := by rw [evalS]
theorem r_raise : evalS cl L .raise env = none := by rw [evalS]
theorem r_try {b : CSs} : evalS cl L (.try_ b) env = evalSs cl L b env := by rw [evalS]
theorem r_run {d : CDef} {args : List Slot} : runDef cl L d args = bindO (argSlots d.mask args) fun ss => bindO (evalSs cl L d.body (ss ++ List.replicate (d.size - ss.length) .nil)) fun f => match f with
    | .nx e => bindO (outsOf d.mask e) fun o => some (.val .non, o)
    | .rt r e => bindO (outsOf d.mask e) fun o => some (r, o)
    | _ => none := by
  unfold runDef
  cases argSlots d.mask args with
  | none => rfl
  | some ss =>
    simp only [bindO_some]
    cases evalSs cl L d.body (ss ++ List.replicate (d.size - ss.length) .nil) with
    | none => rfl
    | some f =>
      cases f <;> try rfl
      all_goals
        rename_i e
        show Option.map _ (outsOf d.mask e) = bindO (outsOf d.mask e) _
        cases outsOf d.mask e <;> rfl
theorem w_succ {c : CE} {b : CSs} {m : Nat} : doW cl L c b (m + 1) env = bindB (evalT cl c env) fun x e1 => if x = true then (match evalSs cl L b e1 with
      | some (.nx e2) => doW cl L c b m e2
      | some (.ct e2) => doW cl L c b m e2
      | some (.bk e2) => some (.nx e2)
      | some (.rt r e2) => some (.rt r e2)
      | none => none) else some (.nx e1) := by
  show whlLoop _ _ (m + 1) env = _
  rw [whlLoop]
  cases evalT cl c env with
  | none => rfl
  | some p =>
    obtain ⟨x, e1⟩ := p
    cases x
    · rfl
    · show (match evalSs cl L b e1 with | some (.nx e2) => _ | some (.ct e2) => _ | some (.bk e2) => _ | some (.rt r e2) => _ | none => _) = _
      rfl
theorem f_nil {t : Tg} {b : CSs} : doF cl L t b [] env = some (.nx env) := rfl
theorem f_cons {t : Tg} {b : CSs} {x : D} {xs : List D} : doF cl L t b (x :: xs) env = bindO (bindTg t x env) fun e1 => match evalSs cl L b e1 with
      | some (.nx e2) => doF cl L t b xs e2
      | some (.ct e2) => doF cl L t b xs e2
      | some (.bk e2) => some (.nx e2)
      | some (.rt r e2) => some (.rt r e2)
      | none => none := by
  show forLoop _ (x :: xs) env = _
  rw [forLoop]
  unfold bodyAt
  cases bindTg t x env <;> rfl
theorem f_step {t : Tg} {b : CSs} {x : D} {xs : List D} {e2 : En} (h : (bindO (bindTg t x env) fun e => evalSs cl L b e) = some (.nx e2)) : doF cl L t b (x :: xs) env = doF cl L t b xs e2 := by
  rw [f_cons]
  cases hb : bindTg t x env with
  | none => rw [hb] at h; cases h
  | some e =>
    rw [hb] at h
    rw [bindO_some] at h ⊢
    rw [h]
theorem f_stop {t : Tg} {b : CSs} {x : D} {xs : List D} {r : Slot} {e2 : En} (h : (bindO (bindTg t x env) fun e => evalSs cl L b e) = some (.rt r e2)) : doF cl L t b (x :: xs) env = some (.rt r e2) := by
  rw [f_cons]
  cases hb : bindTg t x env with
  | none => rw [hb] at h; cases h
  | some e =>
    rw [hb] at h
    rw [bindO_some] at h ⊢
    rw [h]
theorem d_nil {elt : CE} {t : Tg} {cond : CE} {vs : List Nat} {acc : List D} : doC cl elt t cond vs [] env acc = some (acc, env) := rfl
def stepC (cl : Oracle) (elt : CE) (t : Tg) (cond : CE) (vs : List Nat) (x : D) (env : En) : Option (Option D × En) := bindO (bindTg t x env) fun e3 => bindB (evalT cl cond e3) fun b e4 => if b = true then bindV (evalE cl elt e4) fun d e5 => bindO (wipeEn e5 vs) fun e6 => some (some d, e6) else bindO (wipeEn e4 vs) fun e6 => some (none, e6)
theorem d_cons {elt : CE} {t : Tg} {cond : CE} {vs : List Nat} {x : D} {xs acc : List D} : doC cl elt t cond vs (x :: xs) env acc = bindO (stepC cl elt t cond vs x env) fun p => doC cl elt t cond vs xs p.2 (match p.1 with | some d => acc ++ [d] | none => acc) := by
  have e : (match bindTg t x env with
        | some e3 => bindB (evalT cl cond e3) fun b e4 => if b then bindV (evalE cl elt e4) fun d e5 => (wipeEn e5 vs).map fun e6 => (some d, e6) else (wipeEn e4 vs).map fun e6 => (none, e6)
        | none => none) = stepC cl elt t cond vs x env := by
    unfold stepC
    cases bindTg t x env with
    | none => rfl
    | some e3 =>
      simp only [bindO_some]
      rfl
  unfold doC
  rw [lcLoop]
  rw [e]
  cases stepC cl elt t cond vs x env with
  | none => rfl
  | some p => obtain ⟨o, e6⟩ := p; cases o <;> rfl
end
end Pi
namespace Pi
open PySem
def nio : Slot → Bool
  | .io _ => false
  | _ => true
theorem nio_val {d : D} : nio (.val d) = true := rfl
theorem nio_own {d : List D} : nio (.own d) = true := rfl
theorem nio_nil : nio .nil = true := rfl
theorem nio_io {d : List D} : nio (.io d) = false := rfl
def canSet : En → Nat → Bool
  | [], _ => false
  | s :: _, 0 => nio s
  | _ :: es, i + 1 => canSet es i
theorem setSlot_can (env : En) (i : Nat) (s : Slot) : setSlot env i s = guardB (canSet env i) (some (env.set i s)) := by
  unfold setSlot guardB
  induction env generalizing i with
  | nil => rfl
  | cons x xs ih =>
    cases i with
    | zero => cases x <;> rfl
    | succ i =>
      simp only [List.getElem?_cons_succ, List.set_cons_succ]
      have q := ih i
      by_cases h : canSet xs i = true
      · rw [if_pos h] at q
        rw [if_pos (show canSet (x :: xs) (i + 1) = true from h)]
        cases hx : xs[i]? with
        | none => rw [hx] at q; cases q
        | some y => rw [hx] at q; cases y <;> first | rfl | cases q
      · rw [if_neg h] at q
        rw [if_neg (show ¬ canSet (x :: xs) (i + 1) = true from h)]
        cases hx : xs[i]? with
        | none => rfl
        | some y => rw [hx] at q; cases y <;> first | rfl | cases q
theorem setSlots_nil (env : En) : setSlots env [] [] = some env := rfl
theorem setSlots_cons (env : En) (i : Nat) (is : List Nat) (s : Slot) (ss : List Slot) : setSlots env (i :: is) (s :: ss) = bindO (setSlot env i s) fun e => setSlots e is ss := by
  rw [setSlots]
  cases setSlot env i s <;> rfl
theorem putLists_nil (env : En) : putLists env [] [] = some env := rfl
theorem putLists_cons (env : En) (i : Nat) (is : List Nat) (s : List D) (ss : List (List D)) : putLists env (i :: is) (s :: ss) = bindO (putList env i s) fun e => putLists e is ss := by
  rw [putLists]
  cases putList env i s <;> rfl
theorem putList_eq (env : En) (i : Nat) (ds : List D) : putList env i ds = bindO env[i]? fun s => match s with
    | .own _ => some (env.set i (.own ds))
    | .io _ => some (env.set i (.io ds))
    | _ => none := by
  unfold putList
  cases env[i]? with
  | none => rfl
  | some s => cases s <;> rfl
theorem readAt_eq (env : En) (i : Nat) : readAt env i = bindO env[i]? Slot.read := by
  unfold readAt
  cases env[i]? <;> rfl
theorem listAt_eq (env : En) (i : Nat) : listAt env i = bindO env[i]? Slot.list := by
  unfold listAt
  cases env[i]? <;> rfl
theorem wipe_nil (env : En) : wipeEn env [] = some env := rfl
theorem wipe_cons (env : En) (v : Nat) (vs : List Nat) : wipeEn env (v :: vs) = bindO (wipeEn env vs) fun e => setSlot e v .nil := by
  rw [wipeEn]
  cases wipeEn env vs <;> rfl
theorem restore_nil (old env : En) : restore old env [] = env := rfl
theorem restore_cons {old env : En} {v : Nat} {vs : List Nat} {s : Slot} (h : old[v]? = some s) : restore old env (v :: vs) = (restore old env vs).set v s := by
  rw [restore, h]
def setO (o : Option Slot) (env : En) (v : Nat) : En := match o with
  | some s => env.set v s
  | none => env
theorem setO_some {s : Slot} {env : En} {v : Nat} : setO (some s) env v = env.set v s := rfl
theorem restore_eq {old env : En} {v : Nat} {vs : List Nat} : restore old env (v :: vs) = setO old[v]? (restore old env vs) v := by
  rw [restore]
  cases old[v]? <;> rfl
theorem argS_nil : argSlots [] [] = some [] := rfl
theorem argS_t {ms : List Bool} {ds : List D} {ss : List Slot} : argSlots (true :: ms) (.own ds :: ss) = bindO (argSlots ms ss) fun r => some (.io ds :: r) := rfl
theorem argS_f {ms : List Bool} {d : D} {ss : List Slot} : argSlots (false :: ms) (.val d :: ss) = bindO (argSlots ms ss) fun r => some (.val d :: r) := rfl
theorem outs_nil {e : En} : outsOf [] e = some [] := by cases e <;> rfl
theorem outs_t {ms : List Bool} {ds : List D} {e : En} : outsOf (true :: ms) (.io ds :: e) = bindO (outsOf ms e) fun r => some (ds :: r) := rfl
theorem outs_f {ms : List Bool} {s : Slot} {e : En} : outsOf (false :: ms) (s :: e) = outsOf ms e := by cases s <;> rfl
theorem mulOk_l {i j : Int} (h1 : -(2 ^ 64) < i) (h2 : i < 2 ^ 64) : MulOk i j := .inl (.inl ⟨h1, h2⟩)
theorem mulOk_r {i j : Int} (h1 : -(2 ^ 64) < j) (h2 : j < 2 ^ 64) : MulOk i j := .inl (.inr ⟨h1, h2⟩)
theorem divOk_of {j : Int} (h1 : 0 < j) (h2 : j < 2 ^ 64) : DivOk j := ⟨h1, by
  have : j.natAbs < 2 ^ 64 := by omega
  have := (Nat.log2_lt (by omega)).mpr this
  omega⟩
theorem at_nat {ds : List D} {k : Nat} {x : D} (h : ds[k]? = some x) : L2.atI ds (k : Int) = some x := by
  have hk := (List.getElem?_eq_some_iff.mp h).1
  unfold L2.atI L2.ixN
  rw [if_pos (by omega), if_pos (by omega)]
  exact h
theorem at0 (x : D) (ds : List D) : L2.atI (x :: ds) 0 = some x := at_nat (k := 0) rfl
theorem at1 (x y : D) (ds : List D) : L2.atI (x :: y :: ds) 1 = some y := at_nat (k := 1) rfl
theorem at2 (x y z : D) (ds : List D) : L2.atI (x :: y :: z :: ds) 2 = some z := at_nat (k := 2) rfl
theorem at3 (x y z w : D) (ds : List D) : L2.atI (x :: y :: z :: w :: ds) 3 = some w := at_nat (k := 3) rfl
theorem eqv_int {i j : Int} : evalCmp .eq (.int i) (.int j) = some (i == j) := rfl
theorem nev_int {i j : Int} : evalCmp .ne (.int i) (.int j) = some (!(i == j)) := rfl
theorem lt_int {i j : Int} : evalCmp .lt (.int i) (.int j) = some (decide (i < j)) := rfl
theorem le_int {i j : Int} : evalCmp .le (.int i) (.int j) = some (decide (i ≤ j)) := rfl
theorem gt_int {i j : Int} : evalCmp .gt (.int i) (.int j) = some (decide (j < i)) := rfl
theorem ge_int {i j : Int} : evalCmp .ge (.int i) (.int j) = some (decide (j ≤ i)) := rfl
theorem eqv_bl {i j : Bool} : evalCmp .eq (.bl i) (.bl j) = some (i == j) := rfl
theorem nev_bl {i j : Bool} : evalCmp .ne (.bl i) (.bl j) = some (!(i == j)) := rfl
theorem add_int {i j : Int} : evalBin .add (.int i) (.int j) = some (.val (.int (i + j))) := rfl
theorem sub_int {i j : Int} : evalBin .sub (.int i) (.int j) = some (.val (.int (i - j))) := rfl
theorem mul_int {i j : Int} : evalBin .mul (.int i) (.int j) = guardB (decide (MulOk i j)) (some (.val (.int (i * j)))) := by
  show (if MulOk i j then _ else none) = _
  unfold guardB
  simp
theorem fdiv_int {i j : Int} (h : DivOk j) : evalBin .fdiv (.int i) (.int j) = some (.val (.int (i / j))) := if_pos h
theorem mod_int {i j : Int} (h : 0 < j) : evalBin .mod (.int i) (.int j) = some (.val (.int (i % j))) := if_pos h
theorem add_tup {xs ys : List D} : evalBin .add (.tup xs) (.tup ys) = guardB (decide (xs.length + ys.length ≤ sizeLine)) (some (.val (.tup (xs ++ ys)))) := by
  show (if xs.length + ys.length ≤ sizeLine then _ else none) = _
  unfold guardB
  simp
theorem add_ls {xs ys : List D} : evalBin .add (.ls xs) (.ls ys) = guardB (decide (xs.length + ys.length ≤ sizeLine)) (some (.own (xs ++ ys))) := by
  show (if xs.length + ys.length ≤ sizeLine then _ else none) = _
  unfold guardB
  simp
theorem len_ls {xs : List D} : evalBI .len [.ls xs] = some (.val (.int xs.length)) := rfl
theorem len_tup {xs : List D} : evalBI .len [.tup xs] = some (.val (.int xs.length)) := rfl
theorem abs_int {i : Int} : evalBI .abs [.int i] = some (.val (.int (if i < 0 then -i else i))) := rfl
theorem int_int {i : Int} : evalBI .int [.int i] = some (.val (.int i)) := rfl
theorem list_ls {xs : List D} : evalBI .list [.ls xs] = some (.own xs) := rfl
theorem list_tup {xs : List D} : evalBI .list [.tup xs] = some (.own xs) := rfl
theorem ix_tup {ds : List D} {k : Int} : ixD (.tup ds) (.int k) = L2.atI ds k := rfl
theorem ix_ls {ds : List D} {k : Int} : ixD (.ls ds) (.int k) = L2.atI ds k := rfl
theorem sl_tup {ds : List D} {l h : D} {a b : Option Int} (e1 : partD l = some a) (e2 : partD h = some b) : slD (.tup ds) l h = some (.val (.tup (cutD ds a b))) := by unfold slD; rw [e1, e2]
theorem sl_ls {ds : List D} {l h : D} {a b : Option Int} (e1 : partD l = some a) (e2 : partD h = some b) : slD (.ls ds) l h = some (.own (cutD ds a b)) := by unfold slD; rw [e1, e2]
theorem part_non : partD .non = some none := rfl
theorem part_int {i : Int} : partD (.int i) = some (some i) := rfl
theorem tg_nm {i : Nat} {d : D} {env : En} : bindTg (.nm i) d env = setSlot env i (.val d) := rfl
theorem tg_tup {is : List Nat} {ds : List D} {env : En} : bindTg (.tp is) (.tup ds) env = guardB (decide (is.length = ds.length)) (setSlots env is (ds.map .val)) := by
  show (if is.length = ds.length then _ else none) = _
  unfold guardB
  simp
theorem tg_ls {is : List Nat} {ds : List D} {env : En} : bindTg (.tp is) (.ls ds) env = guardB (decide (is.length = ds.length)) (setSlots env is (ds.map .val)) := by
  show (if is.length = ds.length then _ else none) = _
  unfold guardB
  simp
theorem bne_t {a : Bool} : (!(a == true)) = !a := by cases a <;> rfl
theorem bne_f {a : Bool} : (!(a == false)) = a := by cases a <;> rfl
theorem ra_var {cl : Oracle} {env : En} {rs : CEs} (i : Nat) : evalAs cl (.cons (.var i) rs) env = bindV (evalE cl (.var i) env) fun d e1 => bindSs (evalAs cl rs e1) fun ds e2 => some (.val d :: ds, e2) := r_acons rfl
theorem ra_cst {cl : Oracle} {env : En} {rs : CEs} (d : D) : evalAs cl (.cons (.cst d) rs) env = bindV (evalE cl (.cst d) env) fun d e1 => bindSs (evalAs cl rs e1) fun ds e2 => some (.val d :: ds, e2) := r_acons rfl
theorem ra_gc {cl : Oracle} {env : En} {rs : CEs} (x : Str) (d : D) : evalAs cl (.cons (.gc x d) rs) env = bindV (evalE cl (.gc x d) env) fun d e1 => bindSs (evalAs cl rs e1) fun ds e2 => some (.val d :: ds, e2) := r_acons rfl
theorem ra_gf {cl : Oracle} {env : En} {rs : CEs} (x : Str) (j : Nat) : evalAs cl (.cons (.gf x j) rs) env = bindV (evalE cl (.gf x j) env) fun d e1 => bindSs (evalAs cl rs e1) fun ds e2 => some (.val d :: ds, e2) := r_acons rfl
theorem ra_bin {cl : Oracle} {env : En} {rs : CEs} (o : BOp) (a b : CE) : evalAs cl (.cons (.bin o a b) rs) env = bindV (evalE cl (.bin o a b) env) fun d e1 => bindSs (evalAs cl rs e1) fun ds e2 => some (.val d :: ds, e2) := r_acons rfl
theorem ra_neg {cl : Oracle} {env : En} {rs : CEs} (a : CE) : evalAs cl (.cons (.neg a) rs) env = bindV (evalE cl (.neg a) env) fun d e1 => bindSs (evalAs cl rs e1) fun ds e2 => some (.val d :: ds, e2) := r_acons rfl
theorem ra_cmp {cl : Oracle} {env : En} {rs : CEs} (o : COp) (a b : CE) : evalAs cl (.cons (.cmp o a b) rs) env = bindV (evalE cl (.cmp o a b) env) fun d e1 => bindSs (evalAs cl rs e1) fun ds e2 => some (.val d :: ds, e2) := r_acons rfl
theorem ra_chain {cl : Oracle} {env : En} {rs : CEs} (o p : COp) (a b c : CE) : evalAs cl (.cons (.chain o p a b c) rs) env = bindV (evalE cl (.chain o p a b c) env) fun d e1 => bindSs (evalAs cl rs e1) fun ds e2 => some (.val d :: ds, e2) := r_acons rfl
theorem ra_isN {cl : Oracle} {env : En} {rs : CEs} (n : Bool) (a : CE) : evalAs cl (.cons (.isN n a) rs) env = bindV (evalE cl (.isN n a) env) fun d e1 => bindSs (evalAs cl rs e1) fun ds e2 => some (.val d :: ds, e2) := r_acons rfl
theorem ra_and {cl : Oracle} {env : En} {rs : CEs} (a b : CE) : evalAs cl (.cons (.and a b) rs) env = bindV (evalE cl (.and a b) env) fun d e1 => bindSs (evalAs cl rs e1) fun ds e2 => some (.val d :: ds, e2) := r_acons rfl
theorem ra_or {cl : Oracle} {env : En} {rs : CEs} (a b : CE) : evalAs cl (.cons (.or a b) rs) env = bindV (evalE cl (.or a b) env) fun d e1 => bindSs (evalAs cl rs e1) fun ds e2 => some (.val d :: ds, e2) := r_acons rfl
theorem ra_not {cl : Oracle} {env : En} {rs : CEs} (a : CE) : evalAs cl (.cons (.not a) rs) env = bindV (evalE cl (.not a) env) fun d e1 => bindSs (evalAs cl rs e1) fun ds e2 => some (.val d :: ds, e2) := r_acons rfl
theorem ra_ife {cl : Oracle} {env : En} {rs : CEs} (c a b : CE) : evalAs cl (.cons (.ife c a b) rs) env = bindV (evalE cl (.ife c a b) env) fun d e1 => bindSs (evalAs cl rs e1) fun ds e2 => some (.val d :: ds, e2) := r_acons rfl
theorem ra_tup {cl : Oracle} {env : En} {rs : CEs} (es : CEs) : evalAs cl (.cons (.tup es) rs) env = bindV (evalE cl (.tup es) env) fun d e1 => bindSs (evalAs cl rs e1) fun ds e2 => some (.val d :: ds, e2) := r_acons rfl
theorem ra_lst {cl : Oracle} {env : En} {rs : CEs} (es : CEs) : evalAs cl (.cons (.lst es) rs) env = bindV (evalE cl (.lst es) env) fun d e1 => bindSs (evalAs cl rs e1) fun ds e2 => some (.val d :: ds, e2) := r_acons rfl
theorem ra_ix {cl : Oracle} {env : En} {rs : CEs} (a i : CE) : evalAs cl (.cons (.ix a i) rs) env = bindV (evalE cl (.ix a i) env) fun d e1 => bindSs (evalAs cl rs e1) fun ds e2 => some (.val d :: ds, e2) := r_acons rfl
theorem ra_ixv {cl : Oracle} {env : En} {rs : CEs} (k : Nat) (i : CE) : evalAs cl (.cons (.ixv k i) rs) env = bindV (evalE cl (.ixv k i) env) fun d e1 => bindSs (evalAs cl rs e1) fun ds e2 => some (.val d :: ds, e2) := r_acons rfl
theorem ra_sl {cl : Oracle} {env : En} {rs : CEs} (a l h : CE) : evalAs cl (.cons (.sl a l h) rs) env = bindV (evalE cl (.sl a l h) env) fun d e1 => bindSs (evalAs cl rs e1) fun ds e2 => some (.val d :: ds, e2) := r_acons rfl
theorem ra_slv {cl : Oracle} {env : En} {rs : CEs} (k : Nat) (l h : CE) : evalAs cl (.cons (.slv k l h) rs) env = bindV (evalE cl (.slv k l h) env) fun d e1 => bindSs (evalAs cl rs e1) fun ds e2 => some (.val d :: ds, e2) := r_acons rfl
theorem ra_rev {cl : Oracle} {env : En} {rs : CEs} (a : CE) : evalAs cl (.cons (.rev a) rs) env = bindV (evalE cl (.rev a) env) fun d e1 => bindSs (evalAs cl rs e1) fun ds e2 => some (.val d :: ds, e2) := r_acons rfl
theorem ra_call {cl : Oracle} {env : En} {rs : CEs} (j : Nat) (es : CEs) (dv : List D) : evalAs cl (.cons (.call j es dv) rs) env = bindV (evalE cl (.call j es dv) env) fun d e1 => bindSs (evalAs cl rs e1) fun ds e2 => some (.val d :: ds, e2) := r_acons rfl
theorem ra_callv {cl : Oracle} {env : En} {rs : CEs} (i : Nat) (es : CEs) : evalAs cl (.cons (.callv i es) rs) env = bindV (evalE cl (.callv i es) env) fun d e1 => bindSs (evalAs cl rs e1) fun ds e2 => some (.val d :: ds, e2) := r_acons rfl
theorem ra_bi {cl : Oracle} {env : En} {rs : CEs} (b : BI) (es : CEs) : evalAs cl (.cons (.bi b es) rs) env = bindV (evalE cl (.bi b es) env) fun d e1 => bindSs (evalAs cl rs e1) fun ds e2 => some (.val d :: ds, e2) := r_acons rfl
theorem ra_lenv {cl : Oracle} {env : En} {rs : CEs} (k : Nat) : evalAs cl (.cons (.lenv k) rs) env = bindV (evalE cl (.lenv k) env) fun d e1 => bindSs (evalAs cl rs e1) fun ds e2 => some (.val d :: ds, e2) := r_acons rfl
theorem ra_isi {cl : Oracle} {env : En} {rs : CEs} (a : CE) (t : Ty) : evalAs cl (.cons (.isi a t) rs) env = bindV (evalE cl (.isi a t) env) fun d e1 => bindSs (evalAs cl rs e1) fun ds e2 => some (.val d :: ds, e2) := r_acons rfl
theorem ra_lc {cl : Oracle} {env : En} {rs : CEs} (e : CE) (t : Tg) (i : CI) (c : CE) (vs : List Nat) : evalAs cl (.cons (.lc e t i c vs) rs) env = bindV (evalE cl (.lc e t i c vs) env) fun d e1 => bindSs (evalAs cl rs e1) fun ds e2 => some (.val d :: ds, e2) := r_acons rfl
theorem ra_pop {cl : Oracle} {env : En} {rs : CEs} (i : Nat) : evalAs cl (.cons (.pop i) rs) env = bindV (evalE cl (.pop i) env) fun d e1 => bindSs (evalAs cl rs e1) fun ds e2 => some (.val d :: ds, e2) := r_acons rfl
theorem rt_bin {cl : Oracle} {env : En} (o : BOp) (a b : CE) : evalT cl (.bin o a b) env = bindV (evalE cl (.bin o a b) env) fun d e1 => bindO d.truth fun b => some (b, e1) := t_val' rfl
theorem rt_neg {cl : Oracle} {env : En} (a : CE) : evalT cl (.neg a) env = bindV (evalE cl (.neg a) env) fun d e1 => bindO d.truth fun b => some (b, e1) := t_val' rfl
theorem rt_cmp {cl : Oracle} {env : En} (o : COp) (a b : CE) : evalT cl (.cmp o a b) env = bindV (evalE cl (.cmp o a b) env) fun d e1 => bindO d.truth fun b => some (b, e1) := t_val' rfl
theorem rt_chain {cl : Oracle} {env : En} (o p : COp) (a b c : CE) : evalT cl (.chain o p a b c) env = bindV (evalE cl (.chain o p a b c) env) fun d e1 => bindO d.truth fun b => some (b, e1) := t_val' rfl
theorem rt_isN {cl : Oracle} {env : En} (n : Bool) (a : CE) : evalT cl (.isN n a) env = bindV (evalE cl (.isN n a) env) fun d e1 => bindO d.truth fun b => some (b, e1) := t_val' rfl
theorem rt_ix {cl : Oracle} {env : En} (a i : CE) : evalT cl (.ix a i) env = bindV (evalE cl (.ix a i) env) fun d e1 => bindO d.truth fun b => some (b, e1) := t_val' rfl
theorem rt_ixv {cl : Oracle} {env : En} (k : Nat) (i : CE) : evalT cl (.ixv k i) env = bindV (evalE cl (.ixv k i) env) fun d e1 => bindO d.truth fun b => some (b, e1) := t_val' rfl
theorem rt_call {cl : Oracle} {env : En} (j : Nat) (es : CEs) (dv : List D) : evalT cl (.call j es dv) env = bindV (evalE cl (.call j es dv) env) fun d e1 => bindO d.truth fun b => some (b, e1) := t_val' rfl
theorem rt_bi {cl : Oracle} {env : En} (b : BI) (es : CEs) : evalT cl (.bi b es) env = bindV (evalE cl (.bi b es) env) fun d e1 => bindO d.truth fun b => some (b, e1) := t_val' rfl
theorem rt_isi {cl : Oracle} {env : En} (a : CE) (t : Ty) : evalT cl (.isi a t) env = bindV (evalE cl (.isi a t) env) fun d e1 => bindO d.truth fun b => some (b, e1) := t_val' rfl
theorem sizeLine_v : sizeLine = 16777216 := by decide
end Pi

open PySem Pi
local macro_rules
  | `(tactic| simp_arith [$ts,*]) => `(tactic| simp only [r_run, argS_nil, argS_t, argS_f, outs_nil, outs_t, outs_f, r_var, r_cst, r_gc, r_gf, r_bin, r_neg, r_cmp, r_chain, r_isN, r_and, r_or, r_not, r_ife, r_tup, r_lst, r_ix, r_ixv, r_sl, r_slv, r_rev, r_call, r_bi, r_lenv, r_isi, r_lc, r_pop, r_callv, r_enil, r_econs, r_anil, r_aio, ra_var, ra_cst, ra_gc, ra_gf, ra_bin, ra_neg, ra_cmp, ra_chain, ra_isN, ra_and, ra_or, ra_not, ra_ife, ra_tup, ra_lst, ra_ix, ra_ixv, ra_sl, ra_slv, ra_rev, ra_call, ra_callv, ra_bi, ra_lenv, ra_isi, ra_lc, ra_pop, t_and', t_or', t_not', t_var', t_cst, rt_bin, rt_neg, rt_cmp, rt_chain, rt_isN, rt_ix, rt_ixv, rt_call, rt_bi, rt_isi, r_sq, r_rg1, r_rg2, r_rg3, r_snil, r_scons, r_asg, r_asgt, r_lnil, r_lcons, r_asl, r_setix, r_app, r_ext, r_drop, r_ret, r_retv, r_ret0, r_if, r_whl, r_fr, r_brk, r_cnt, r_pass, r_raise, r_try,
      bindV_val, bindV_own, bindV_none, bindB_some, bindB_none, bindDs_some, bindSs_some, bindE_some, bindE_none, bindO_some, bindO_none, bindF_nx, bindF_rt, bindF_bk, bindF_ct, bindF_none, guardB_t, guardB_f, f_nil, d_nil,
      isTy, eqv_int, nev_int, lt_int, le_int, gt_int, ge_int, eqv_bl, nev_bl, add_int, sub_int, mul_int, fdiv_int, mod_int, len_ls, len_tup, abs_int, int_int, list_ls, list_tup, readAt_eq, Slot.read, listAt_eq, Slot.list, List.getElem?_cons_zero, List.getElem?_cons_succ, List.length_cons, List.length_nil, List.replicate, List.cons_append, List.nil_append, List.append_nil, Option.isSome_some, setSlot_can, canSet, nio_val, nio_own, nio_nil, nio_io, setSlots_nil, setSlots_cons, tg_nm, tg_tup, tg_ls, putList_eq, putLists_nil, putLists_cons, List.set_cons_zero, List.set_cons_succ, D.truth, D.isNon, iosOf, if_true, if_false, Bool.false_eq_true, Nat.reduceSub, Nat.reduceAdd, Nat.zero_add, Bool.not_true, Bool.not_false, List.map_cons, List.map_nil, reduceIte, D.items, wipe_nil, wipe_cons, restore_nil, restore_eq, setO_some, ix_tup, ix_ls, at0, at1, at2, at3, decide_true, decide_false, Int.cast_ofNat_Int, Int.reduceLE, Int.reduceLT, Int.reduceBEq, Int.reduceBNe, Int.reduceNeg, Nat.reduceLT, Nat.reduceLeDiff, Nat.reduceEqDiff, Bool.and_self, Bool.and_true, Bool.true_and, Bool.false_and, Bool.and_false, Bool.or_true, Bool.true_or, Bool.or_false, Bool.false_or, beq_self_eq_true, sizeLine_v, and_true, true_and, $ts,*])

-- K84Defs
set_option maxHeartbeats 4000000
namespace K84
open PySem PySem.Spec PyProof.Rows L2 Pi
def top84 (i : Nat) : Stmt := PySem.Challenge.pw_evensure_k84_whole_evidence_of_common_da.main.body.getD i (.Pass ⟨0, 0, 0, 0⟩)
def b84is_integer : CSs := (.cons (.ret (.and (.isi (.var 0) .int) (.not (.isi (.var 0) .bool)))) .nil)
def b84d0 : TDef := ⟨"is_integer", top84 4, ["value"], [false], b84is_integer⟩
def b84is_from_to : CSs := (.cons (.ret (.and (.call 0 (.cons (.var 0) .nil) []) (.chain .le .le (.var 1) (.var 0) (.var 2)))) .nil)
def b84d1 : TDef := ⟨"is_from_to", top84 5, ["value", "least", "most"], [false, false, false], b84is_from_to⟩
def b84is_tuple_of : CSs := (.cons (.ret (.and (.isi (.var 0) .tuple) (.chain .le .le (.var 1) (.lenv 0) (.var 2)))) .nil)
def b84d2 : TDef := ⟨"is_tuple_of", top84 6, ["value", "least", "most"], [false, false, false], b84is_tuple_of⟩
def b84common_divisor : CSs := (.cons (.whl (.var 1) (.cons (.asl [0, 1] (.cons (.var 1) (.cons (.bin .mod (.var 0) (.var 1)) .nil))) .nil)) (.cons (.ret (.bi .abs (.cons (.var 0) .nil))) .nil))
def b84d3 : TDef := ⟨"common_divisor", top84 9, ["one", "other"], [false, false], b84common_divisor⟩
def b84is_fraction : CSs := (.cons (.ife (.or (.not (.call 2 (.cons (.var 0) (.cons (.cst (.int (2))) (.cons (.cst (.int (2))) .nil))) [])) (.not (.call 1 (.cons (.ixv 0 (.cst (.int (0)))) (.cons (.neg (.gc "MOST_NUMBER" (.int (1000000000000000000000000000000000000000000000000000000000000)))) (.cons (.gc "MOST_NUMBER" (.int (1000000000000000000000000000000000000000000000000000000000000))) .nil))) []))) (.cons (.ret (.cst (.bl false))) .nil) .nil) (.cons (.ret (.and (.call 1 (.cons (.ixv 0 (.cst (.int (1)))) (.cons (.cst (.int (1))) (.cons (.gc "MOST_NUMBER" (.int (1000000000000000000000000000000000000000000000000000000000000))) .nil))) []) (.cmp .eq (.call 3 (.cons (.ixv 0 (.cst (.int (0)))) (.cons (.ixv 0 (.cst (.int (1)))) .nil)) []) (.cst (.int (1)))))) .nil))
def b84d4 : TDef := ⟨"is_fraction", top84 10, ["value"], [false], b84is_fraction⟩
def b84inverse : CSs := (.cons (.asl [2, 3, 4, 5] (.cons (.var 1) (.cons (.bin .mod (.var 0) (.var 1)) (.cons (.cst (.int (0))) (.cons (.cst (.int (1))) .nil))))) (.cons (.whl (.cmp .gt (.var 3) (.cst (.int (1)))) (.cons (.asg (.nm 6) (.bin .fdiv (.var 2) (.var 3))) (.cons (.asl [2, 3] (.cons (.var 3) (.cons (.bin .sub (.var 2) (.bin .mul (.var 6) (.var 3))) .nil))) (.cons (.asl [4, 5] (.cons (.var 5) (.cons (.bin .sub (.var 4) (.bin .mul (.var 6) (.var 5))) .nil))) .nil)))) (.cons (.ret (.bin .mod (.var 5) (.var 1))) .nil)))
def b84d5 : TDef := ⟨"inverse", top84 12, ["p", "q", "one", "two", "low", "high", "whole"], [false, false], b84inverse⟩
def b84is_world : CSs := (.cons (.ret (.and (.call 2 (.cons (.var 0) (.cons (.cst (.int (3))) (.cons (.cst (.int (3))) .nil))) []) (.and (.call 4 (.cons (.slv 0 (.cst .non) (.cst (.int (2)))) .nil) []) (.call 1 (.cons (.ixv 0 (.cst (.int (2)))) (.cons (.neg (.gc "MOST_NUMBER" (.int (1000000000000000000000000000000000000000000000000000000000000)))) (.cons (.gc "MOST_NUMBER" (.int (1000000000000000000000000000000000000000000000000000000000000))) .nil))) [])))) .nil)
def b84d6 : TDef := ⟨"is_world", top84 14, ["value"], [false], b84is_world⟩
def b84day_among : CSs := (.cons (.asg (.tp [2, 3, 4]) (.var 0)) (.cons (.ret (.bin .fdiv (.bin .add (.bin .mul (.var 2) (.var 1)) (.var 4)) (.var 3))) .nil))
def b84d7 : TDef := ⟨"day_among", top84 15, ["world", "event", "p", "q", "c"], [false, false], b84day_among⟩
def b84check_pair : CSs := (.cons (.fr (.tp [3, 4]) (.sq (.tup (.cons (.tup (.cons (.var 0) (.cons (.cst (.str "world")) .nil))) (.cons (.tup (.cons (.var 1) (.cons (.cst (.str "other")) .nil))) .nil)))) (.cons (.ife (.or (.not (.call 6 (.cons (.var 3) .nil) [])) (.or (.not (.call 1 (.cons (.ixv 3 (.cst (.int (0)))) (.cons (.cst (.int (1))) (.cons (.var 2) .nil))) [])) (.cmp .gt (.ixv 3 (.cst (.int (1)))) (.var 2)))) (.cons .raise .nil) .nil) .nil)) .nil)
def b84d8 : TDef := ⟨"check_pair", top84 18, ["world", "other", "most", "value", "name"], [false, false, false], b84check_pair⟩
def b84first_event : CSs := (.cons (.asg (.tp [2, 3, 4]) (.var 0)) (.cons (.ret (.neg (.bin .fdiv (.bin .sub (.var 4) (.bin .mul (.var 3) (.var 1))) (.var 2)))) .nil))
def b84d9 : TDef := ⟨"first_event", top84 19, ["world", "day", "p", "q", "c"], [false, false], b84first_event⟩
def b84has_rest : CSs := (.cons (.asg (.tp [3, 4, 5]) (.var 0)) (.cons (.ret (.or (.cmp .ge (.var 4) (.var 1)) (.cmp .lt (.bin .mod (.bin .sub (.bin .sub (.bin .add (.bin .mul (.var 4) (.var 2)) (.var 4)) (.cst (.int (1)))) (.var 5)) (.var 1)) (.var 4)))) .nil))
def b84d10 : TDef := ⟨"has_rest", top84 20, ["world", "number", "rest", "p", "q", "c"], [false, false, false], b84has_rest⟩
def b84common_rest : CSs := (.cons (.fr (.nm 3) (.rg1 (.var 2)) (.cons (.ife (.and (.call 10 (.cons (.var 0) (.cons (.var 2) (.cons (.var 3) .nil))) []) (.call 10 (.cons (.var 1) (.cons (.var 2) (.cons (.var 3) .nil))) [])) (.cons (.retv 3) .nil) .nil) .nil)) (.cons (.ret (.cst .non)) .nil))
def b84d11 : TDef := ⟨"common_rest", top84 21, ["world", "other", "number", "rest"], [false, false, false], b84common_rest⟩
def b84day_with : CSs := (.cons (.asg (.tp [3, 4, 5]) (.var 0)) (.cons (.ife (.cmp .ge (.var 4) (.var 3)) (.cons (.retv 2) .nil) .nil) (.cons (.asg (.nm 6) (.bin .mod (.bin .sub (.bin .sub (.bin .add (.bin .mul (.var 4) (.var 2)) (.var 4)) (.cst (.int (1)))) (.var 5)) (.var 1))) (.cons (.ret (.bin .mod (.bin .mul (.bin .add (.bin .add (.bin .sub (.var 6) (.var 4)) (.cst (.int (1)))) (.var 5)) (.call 5 (.cons (.var 4) (.cons (.var 3) .nil)) [])) (.var 3))) .nil))))
def b84d12 : TDef := ⟨"day_with", top84 22, ["world", "number", "rest", "p", "q", "c", "left"], [false, false, false], b84day_with⟩
def b84day_among_both : CSs := (.cons (.asl [4, 5] (.cons (.call 12 (.cons (.var 0) (.cons (.var 2) (.cons (.var 3) .nil))) []) (.cons (.call 12 (.cons (.var 1) (.cons (.var 2) (.cons (.var 3) .nil))) []) .nil))) (.cons (.asl [6, 7] (.cons (.bin .fdiv (.ixv 0 (.cst (.int (0)))) (.var 2)) (.cons (.bin .fdiv (.ixv 1 (.cst (.int (0)))) (.var 2)) .nil))) (.cons (.asg (.nm 8) (.bin .mod (.bin .mul (.bin .fdiv (.bin .sub (.var 5) (.var 4)) (.var 2)) (.call 5 (.cons (.var 6) (.cons (.var 7) .nil)) [])) (.var 7))) (.cons (.ret (.bin .add (.var 4) (.bin .mul (.var 8) (.ixv 0 (.cst (.int (0))))))) .nil))))
def b84d13 : TDef := ⟨"day_among_both", top84 23, ["world", "other", "number", "rest", "one", "two", "here", "there", "turns"], [false, false, false, false], b84day_among_both⟩
def b84both_paper : CSs := (.cons (.drop (.call 8 (.cons (.var 0) (.cons (.var 1) (.cons (.gc "MOST_PART" (.int (100000))) .nil))) [])) (.cons (.asg (.nm 2) (.call 3 (.cons (.ixv 0 (.cst (.int (0)))) (.cons (.ixv 1 (.cst (.int (0)))) .nil)) [])) (.cons (.asg (.nm 3) (.call 11 (.cons (.var 0) (.cons (.var 1) (.cons (.var 2) .nil))) [])) (.cons (.ife (.isN false (.var 3)) (.cons (.ret (.tup (.cons (.cst (.str "never")) (.cons (.var 2) .nil)))) .nil) .nil) (.cons (.asg (.nm 4) (.call 13 (.cons (.var 0) (.cons (.var 1) (.cons (.var 2) (.cons (.var 3) .nil)))) [])) (.cons (.ret (.tup (.cons (.cst (.str "both")) (.cons (.var 4) (.cons (.call 9 (.cons (.var 0) (.cons (.var 4) .nil)) []) (.cons (.call 9 (.cons (.var 1) (.cons (.var 4) .nil)) []) .nil)))))) .nil))))))
def b84d14 : TDef := ⟨"both_paper", top84 24, ["world", "other", "number", "rest", "day"], [false, false], b84both_paper⟩
def b84accepts_both : CSs := (.cons (.drop (.call 8 (.cons (.var 0) (.cons (.var 1) (.cons (.gc "MOST_PART" (.int (100000))) .nil))) [])) (.cons (.ife (.or (.not (.call 2 (.cons (.var 2) (.cons (.cst (.int (2))) (.cons (.cst (.int (4))) .nil))) [])) (.or (.not (.isi (.ixv 2 (.cst (.int (0)))) .str)) (.not (.bi .all (.cons (.lc (.call 0 (.cons (.var 4) .nil) []) (.nm 4) (.sq (.slv 2 (.cst (.int (1))) (.cst .non))) (.cst (.bl true)) [4]) .nil))))) (.cons (.ret (.cst (.bl false))) .nil) .nil) (.cons (.ife (.cmp .eq (.lenv 2) (.cst (.int (2)))) (.cons (.asg (.nm 3) (.ixv 2 (.cst (.int (1))))) (.cons (.ife (.or (.cmp .ne (.ixv 2 (.cst (.int (0)))) (.cst (.str "never"))) (.or (.cmp .lt (.var 3) (.cst (.int (1)))) (.or (.cmp .ne (.bin .mod (.ixv 0 (.cst (.int (0)))) (.var 3)) (.cst (.int (0)))) (.cmp .ne (.bin .mod (.ixv 1 (.cst (.int (0)))) (.var 3)) (.cst (.int (0))))))) (.cons (.ret (.cst (.bl false))) .nil) .nil) (.cons (.ret (.isN false (.call 11 (.cons (.var 0) (.cons (.var 1) (.cons (.var 3) .nil))) []))) .nil))) .nil) (.cons (.ife (.or (.cmp .ne (.lenv 2) (.cst (.int (4)))) (.cmp .ne (.ixv 2 (.cst (.int (0)))) (.cst (.str "both")))) (.cons (.ret (.cst (.bl false))) .nil) .nil) (.cons (.ret (.and (.cmp .eq (.call 7 (.cons (.var 0) (.cons (.ixv 2 (.cst (.int (2)))) .nil)) []) (.ixv 2 (.cst (.int (1))))) (.cmp .eq (.call 7 (.cons (.var 1) (.cons (.ixv 2 (.cst (.int (3)))) .nil)) []) (.ixv 2 (.cst (.int (1))))))) .nil)))))
def b84d15 : TDef := ⟨"accepts_both", top84 25, ["world", "other", "value", "number", "one"], [false, false, false], b84accepts_both⟩
def b84_law_stream : CSs := (.cons (.ret (.lst (.cons (.bi .list (.cons (.var 0) .nil)) (.cons (.cst (.int (0))) (.cons (.cst (.int (0))) .nil))))) .nil)
def b84d16 : TDef := ⟨"_law_stream", top84 27, ["script"], [false], b84_law_stream⟩
def b84_law_next : CSs := (.cons (.ife (.cmp .eq (.ixv 0 (.cst (.int (1)))) (.cst (.int (0)))) (.cons (.asg (.nm 2) (.ixv 0 (.cst (.int (2))))) (.cons (.asg (.nm 3) (.bin .add (.cst (.int (7))) (.var 2))) (.cons (.ife (.cmp .lt (.var 2) (.bi .len (.cons (.ixv 0 (.cst (.int (0)))) .nil))) (.cons (.asg (.nm 3) (.bin .mod (.bi .int (.cons (.bi .abs (.cons (.ix (.ixv 0 (.cst (.int (0)))) (.var 2)) .nil)) .nil)) (.bin .pow (.cst (.int (10))) (.cst (.int (60)))))) .nil) .nil) (.cons (.ife (.cmp .lt (.var 3) (.bin .pow (.cst (.int (10))) (.cst (.int (18))))) (.cons (.asg (.nm 3) (.bin .mod (.bi .int (.cons (.bin .add (.bin .add (.bin .mul (.var 3) (.cst (.int (48271)))) (.bin .mul (.var 2) (.cst (.int (69621))))) (.cst (.int (11)))) .nil)) (.cst (.int (2147483647))))) (.cons (.asg (.nm 3) (.bin .add (.bin .mul (.bin .mod (.bi .int (.cons (.bin .add (.bin .mul (.var 3) (.cst (.int (16807)))) (.cst (.int (13)))) .nil)) (.cst (.int (2147483647)))) (.cst (.int (65537)))) (.var 3))) .nil)) .nil) (.cons (.setix 0 (.cst (.int (1))) (.var 3)) (.cons (.setix 0 (.cst (.int (2))) (.bin .add (.var 2) (.cst (.int (1))))) .nil)))))) .nil) (.cons (.asg (.nm 4) (.bin .mod (.bi .int (.cons (.ixv 0 (.cst (.int (1)))) .nil)) (.var 1))) (.cons (.setix 0 (.cst (.int (1))) (.bin .fdiv (.ixv 0 (.cst (.int (1)))) (.var 1))) (.cons (.retv 4) .nil))))
def b84d17 : TDef := ⟨"_law_next", top84 28, ["stream", "many", "k", "cell", "digit"], [true, false], b84_law_next⟩
def b84_law_pick : CSs := (.cons (.ret (.ixv 1 (.call 17 (.cons (.io 0) (.cons (.lenv 1) .nil)) []))) .nil)
def b84d18 : TDef := ⟨"_law_pick", top84 29, ["stream", "rows"], [true, false], b84_law_pick⟩
def b84_law_plain : CSs := (.cons (.asg (.nm 1) (.lst (.cons (.var 0) .nil))) (.cons (.fr (.nm 2) (.rg1 (.bin .pow (.cst (.int (10))) (.cst (.int (6))))) (.cons (.ife (.cmp .eq (.lenv 1) (.cst (.int (0)))) (.cons (.ret (.cst (.bl true))) .nil) .nil) (.cons (.asg (.nm 3) (.pop 1)) (.cons (.ife (.isi (.var 3) .tuple) (.cons (.ext 1 (.bi .list (.cons (.var 3) .nil))) .nil) (.cons (.ife (.and (.isN true (.var 3)) (.and (.not (.isi (.var 3) .str)) (.not (.isi (.var 3) .int)))) (.cons (.ret (.cst (.bl false))) .nil) .nil) .nil)) .nil)))) (.cons (.ret (.cst (.bl false))) .nil)))
def b84d19 : TDef := ⟨"_law_plain", top84 30, ["value", "left", "turn", "one"], [false], b84_law_plain⟩
def b84_law_equal : CSs := (.cons (.ret (.and (.call 19 (.cons (.var 0) .nil) []) (.cmp .eq (.bi .repr (.cons (.var 0) .nil)) (.bi .repr (.cons (.var 1) .nil))))) .nil)
def b84d20 : TDef := ⟨"_law_equal", top84 31, ["value", "due"], [false, false], b84_law_equal⟩
def b84_law_whole : CSs := (.cons (.ret (.and (.isi (.var 0) .int) (.not (.isi (.var 0) .bool)))) .nil)
def b84d21 : TDef := ⟨"_law_whole", top84 32, ["value"], [false], b84_law_whole⟩
def b84_law_divisor : CSs := (.cons (.fr (.nm 2) (.rg1 (.cst (.int (1000)))) (.cons (.ife (.cmp .eq (.var 1) (.cst (.int (0)))) (.cons (.ret (.bi .abs (.cons (.var 0) .nil))) .nil) .nil) (.cons (.asl [0, 1] (.cons (.var 1) (.cons (.bin .mod (.bi .int (.cons (.var 0) .nil)) (.var 1)) .nil))) .nil))) (.cons (.ret (.cst (.int (1)))) .nil))
def b84d22 : TDef := ⟨"_law_divisor", top84 33, ["one", "other", "turn"], [false, false], b84_law_divisor⟩
def b84_law_lowest : CSs := (.cons (.asg (.nm 2) (.call 22 (.cons (.var 0) (.cons (.var 1) .nil)) [])) (.cons (.ret (.tup (.cons (.bin .fdiv (.var 0) (.var 2)) (.cons (.bin .fdiv (.var 1) (.var 2)) .nil)))) .nil))
def b84d23 : TDef := ⟨"_law_lowest", top84 34, ["top", "bottom", "common"], [false, false], b84_law_lowest⟩
def b84_law_day : CSs := (.cons (.asg (.tp [2, 3, 4]) (.var 0)) (.cons (.ret (.bin .fdiv (.bin .add (.bin .mul (.var 2) (.var 1)) (.var 4)) (.var 3))) .nil))
def b84d24 : TDef := ⟨"_law_day", top84 35, ["world", "event", "p", "q", "c"], [false, false], b84_law_day⟩
def b84_law_spoiled : CSs := (.cons (.asl [2, 3] (.cons (.lst .nil) (.cons (.var 1) .nil))) (.cons (.fr (.nm 4) (.rg1 (.call 17 (.cons (.io 0) (.cons (.cst (.int (6))) .nil)) [])) (.cons (.ife (.and (.isi (.var 3) .tuple) (.cmp .ne (.var 3) (.tup .nil))) (.cons (.asg (.nm 5) (.call 17 (.cons (.io 0) (.cons (.lenv 3) .nil)) [])) (.cons (.app 2 (.tup (.cons (.var 3) (.cons (.var 5) .nil)))) (.cons (.asg (.nm 3) (.ixv 3 (.var 5))) .nil))) .nil) .nil)) (.cons (.ife (.isi (.var 3) .tuple) (.cons (.asg (.nm 5) (.call 17 (.cons (.io 0) (.cons (.bin .add (.lenv 3) (.cst (.int (1)))) .nil)) [])) (.cons (.asg (.nm 6) (.lst (.cons (.bin .add (.slv 3 (.cst .non) (.var 5)) (.slv 3 (.bin .add (.var 5) (.cst (.int (1)))) (.cst .non))) (.cons (.bin .add (.bin .add (.slv 3 (.cst .non) (.var 5)) (.bin .mul (.slv 3 (.var 5) (.bin .add (.var 5) (.cst (.int (1))))) (.cst (.int (2))))) (.slv 3 (.bin .add (.var 5) (.cst (.int (1)))) (.cst .non))) (.cons (.rev (.var 3)) (.cons (.bi .list (.cons (.var 3) .nil)) .nil)))))) (.cons (.asg (.nm 3) (.call 18 (.cons (.io 0) (.cons (.bin .add (.var 6) (.lst (.cons (.bin .add (.bin .add (.bin .add (.slv 3 (.cst .non) (.var 5)) (.slv 3 (.bin .add (.var 5) (.cst (.int (1)))) (.bin .add (.var 5) (.cst (.int (2)))))) (.slv 3 (.var 5) (.bin .add (.var 5) (.cst (.int (1)))))) (.slv 3 (.bin .add (.var 5) (.cst (.int (2)))) (.cst .non))) (.cons (.cst .non) .nil)))) .nil)) [])) .nil))) (.cons (.ife (.isi (.var 3) .int) (.cons (.asg (.nm 3) (.call 18 (.cons (.io 0) (.cons (.lst (.cons (.bin .add (.var 3) (.cst (.int (1)))) (.cons (.bin .sub (.var 3) (.cst (.int (1)))) (.cons (.bin .add (.var 3) (.cst (.int (1)))) (.cons (.bin .sub (.var 3) (.cst (.int (1)))) (.cons (.cst (.int (0))) (.cons (.cst (.int (9999))) (.cons (.cmp .eq (.var 3) (.cst (.int (1)))) (.cons (.cst .non) .nil))))))))) .nil)) [])) .nil) (.cons (.ife (.isi (.var 3) .str) (.cons (.asg (.nm 3) (.call 18 (.cons (.io 0) (.cons (.lst (.cons (.cst (.str "beat")) (.cons (.cst (.str "steps")) (.cons (.cst (.str "both")) (.cons (.cst (.str "never")) (.cons (.cst (.str "from")) (.cons (.cst (.str "by")) (.cons (.cst (.str "at least")) (.cons (.cst (.str "below")) (.cons (.bin .add (.var 3) (.cst (.str "a"))) (.cons (.slv 3 (.cst .non) (.neg (.cst (.int (1))))) (.cons (.cst (.int (0))) .nil)))))))))))) .nil)) [])) .nil) (.cons (.asg (.nm 3) (.cst (.int (0)))) .nil)) .nil)) .nil)) (.cons (.fr (.tp [7, 5]) (.sq (.rev (.var 2))) (.cons (.asg (.nm 3) (.bin .add (.bin .add (.slv 7 (.cst .non) (.var 5)) (.tup (.cons (.var 3) .nil))) (.slv 7 (.bin .add (.var 5) (.cst (.int (1)))) (.cst .non)))) .nil)) (.cons (.retv 3) .nil)))))
def b84d25 : TDef := ⟨"_law_spoiled", top84 36, ["stream", "value", "way", "one", "turn", "at", "odd", "whole"], [true, false], b84_law_spoiled⟩
def b84_law_pair : CSs := (.cons (.asg (.nm 2) (.lst .nil)) (.cons (.fr (.nm 3) (.rg1 (.cst (.int (2)))) (.cons (.asg (.tp [4, 5]) (.call 23 (.cons (.bin .add (.cst (.int (1))) (.call 17 (.cons (.io 0) (.cons (.var 1) .nil)) [])) (.cons (.bin .add (.cst (.int (1))) (.call 17 (.cons (.io 0) (.cons (.var 1) .nil)) [])) .nil)) [])) (.cons (.app 2 (.tup (.cons (.var 4) (.cons (.var 5) (.cons (.bin .sub (.call 17 (.cons (.io 0) (.cons (.bin .mul (.cst (.int (2))) (.var 1)) .nil)) []) (.var 1)) .nil))))) .nil))) (.cons (.retv 2) .nil)))
def b84d26 : TDef := ⟨"_law_pair", top84 37, ["stream", "most", "found", "turn", "p", "q"], [true, false], b84_law_pair⟩
def b84_law_events_on : CSs := (.cons (.asg (.tp [2, 3, 4]) (.var 0)) (.cons (.asg (.nm 5) (.bin .fdiv (.bin .sub (.bin .mul (.var 3) (.var 1)) (.var 4)) (.var 2))) (.cons (.ret (.bi .len (.cons (.lc (.var 6) (.nm 6) (.rg2 (.bin .sub (.var 5) (.cst (.int (1)))) (.bin .add (.bin .add (.var 5) (.bin .fdiv (.var 3) (.var 2))) (.cst (.int (4))))) (.cmp .eq (.call 24 (.cons (.var 0) (.cons (.var 6) .nil)) []) (.var 1)) [6]) .nil))) .nil)))
def b84d27 : TDef := ⟨"_law_events_on", top84 38, ["world", "day", "p", "q", "c", "near", "event"], [false, false], b84_law_events_on⟩
def b84_law_told : CSs := (.cons (.try_ (.cons (.ret (.ife (.cmp .eq (.var 0) (.cst (.str "paper"))) (.call 14 (.cons (.var 1) (.cons (.var 2) .nil)) []) (.call 15 (.cons (.var 1) (.cons (.var 2) (.cons (.var 3) .nil))) []))) .nil)) .nil)
def b84d28 : TDef := ⟨"_law_told", top84 39, ["kind", "one", "other", "value"], [false, false, false, false], b84_law_told⟩
def b84_law_rests : CSs := (.cons (.ret (.lc (.var 2) (.nm 2) (.rg1 (.var 1)) (.cmp .ne (.lc (.var 3) (.nm 3) (.rg3 (.var 2) (.bin .add (.ixv 0 (.cst (.int (0)))) (.var 2)) (.var 1)) (.cmp .gt (.call 27 (.cons (.var 0) (.cons (.var 3) .nil)) []) (.cst (.int (0)))) [3]) (.lst .nil)) [2])) .nil)
def b84d29 : TDef := ⟨"_law_rests", top84 40, ["world", "number", "rest", "day"], [false, false], b84_law_rests⟩
def b84_law_is_one : CSs := (.cons (.ife (.or (.not (.call 19 (.cons (.var 2) .nil) [])) (.or (.not (.isi (.var 2) .tuple)) (.or (.cmp .nin (.lenv 2) (.tup (.cons (.cst (.int (2))) (.cons (.cst (.int (4))) .nil)))) (.or (.not (.isi (.ixv 2 (.cst (.int (0)))) .str)) (.cmp .ne (.lc (.var 5) (.nm 5) (.sq (.slv 2 (.cst (.int (1))) (.cst .non))) (.not (.call 21 (.cons (.var 5) .nil) [])) [5]) (.lst .nil)))))) (.cons (.ret (.cst (.bl false))) .nil) .nil) (.cons (.ife (.cmp .eq (.lenv 2) (.cst (.int (4)))) (.cons (.ret (.and (.cmp .eq (.ixv 2 (.cst (.int (0)))) (.cst (.str "both"))) (.and (.cmp .eq (.call 24 (.cons (.var 0) (.cons (.ixv 2 (.cst (.int (2)))) .nil)) []) (.ixv 2 (.cst (.int (1))))) (.cmp .eq (.call 24 (.cons (.var 1) (.cons (.ixv 2 (.cst (.int (3)))) .nil)) []) (.ixv 2 (.cst (.int (1)))))))) .nil) .nil) (.cons (.asg (.nm 3) (.ixv 2 (.cst (.int (1))))) (.cons (.ife (.or (.cmp .ne (.ixv 2 (.cst (.int (0)))) (.cst (.str "never"))) (.or (.cmp .lt (.var 3) (.cst (.int (1)))) (.or (.cmp .ne (.bin .mod (.bi .int (.cons (.ixv 0 (.cst (.int (0)))) .nil)) (.var 3)) (.cst (.int (0)))) (.cmp .ne (.bin .mod (.bi .int (.cons (.ixv 1 (.cst (.int (0)))) .nil)) (.var 3)) (.cst (.int (0))))))) (.cons (.ret (.cst (.bl false))) .nil) .nil) (.cons (.asg (.nm 4) (.call 29 (.cons (.var 1) (.cons (.var 3) .nil)) [])) (.cons (.ret (.cmp .eq (.lc (.var 6) (.nm 6) (.sq (.call 29 (.cons (.var 0) (.cons (.var 3) .nil)) [])) (.cmp .inn (.var 6) (.var 4)) [6]) (.lst .nil))) .nil))))))
def b84d30 : TDef := ⟨"_law_is_one", top84 41, ["one", "other", "value", "number", "rests", "part", "rest"], [false, false, false], b84_law_is_one⟩
def b84law : CSs := (.cons (.asg (.nm 1) (.call 16 (.cons (.var 0) .nil) [])) (.cons (.fr (.nm 2) (.rg1 (.cst (.int (4)))) (.cons (.asg (.nm 3) (.lst (.cons (.call 26 (.cons (.io 1) (.cons (.cst (.int (14))) .nil)) []) (.cons (.call 26 (.cons (.io 1) (.cons (.cst (.int (14))) .nil)) []) .nil)))) (.cons (.ife (.cmp .eq (.call 17 (.cons (.io 1) (.cons (.cst (.int (2))) .nil)) []) (.cst (.int (0)))) (.cons (.asg (.nm 4) (.call 18 (.cons (.io 1) (.cons (.lst (.cons (.cst (.int (2))) (.cons (.cst (.int (3))) (.cons (.cst (.int (4))) (.cons (.cst (.int (6))) .nil))))) .nil)) [])) (.cons (.setix 3 (.cst (.int (0))) (.lst (.cons (.tup (.cons (.var 4) (.cons (.cst (.int (1))) (.cons (.call 17 (.cons (.io 1) (.cons (.cst (.int (9))) .nil)) []) .nil)))) (.cons (.tup (.cons (.bin .mul (.var 4) (.bin .add (.cst (.int (1))) (.call 17 (.cons (.io 1) (.cons (.cst (.int (2))) .nil)) []))) (.cons (.cst (.int (1))) (.cons (.call 17 (.cons (.io 1) (.cons (.cst (.int (9))) .nil)) []) .nil)))) .nil)))) .nil)) .nil) (.cons (.asg (.tp [5, 6]) (.ixv 3 (.cst (.int (0))))) (.cons (.asg (.nm 7) (.call 28 (.cons (.cst (.str "paper")) (.cons (.var 5) (.cons (.var 6) (.cons (.cst .non) .nil)))) [])) (.cons (.asg (.nm 8) (.bin .mul (.ixv 5 (.cst (.int (0)))) (.ixv 6 (.cst (.int (0)))))) (.cons (.asg (.nm 10) (.cmp .ne (.lc (.var 9) (.nm 9) (.rg1 (.var 8)) (.and (.cmp .gt (.call 27 (.cons (.var 5) (.cons (.var 9) .nil)) []) (.cst (.int (0)))) (.cmp .gt (.call 27 (.cons (.var 6) (.cons (.var 9) .nil)) []) (.cst (.int (0))))) [9]) (.lst .nil))) (.cons (.ife (.or (.not (.call 30 (.cons (.var 5) (.cons (.var 6) (.cons (.var 7) .nil))) [])) (.cmp .ne (.cmp .eq (.ixv 7 (.cst (.int (0)))) (.cst (.str "both"))) (.var 10))) (.cons (.ret (.cst (.bl false))) .nil) .nil) (.cons (.asg (.nm 11) (.lst (.cons (.var 7) (.cons (.rev (.var 7)) (.cons (.bi .list (.cons (.var 7) .nil)) (.cons (.tup (.cons (.cst (.str "never")) (.cons (.cst (.int (1))) .nil))) (.cons (.tup (.cons (.cst (.str "never")) (.cons (.ixv 5 (.cst (.int (0)))) .nil))) (.cons (.tup (.cons (.cst (.str "never")) (.cons (.call 22 (.cons (.ixv 5 (.cst (.int (0)))) (.cons (.ixv 6 (.cst (.int (0)))) .nil)) []) .nil))) (.cons (.tup (.cons (.cst (.str "never")) (.cons (.neg (.cst (.int (1)))) .nil))) (.cons (.tup (.cons (.cst (.str "never")) (.cons (.cst (.int (0))) .nil))) (.cons (.tup (.cons (.cst (.str "never")) (.cons (.cst (.bl true)) .nil))) .nil))))))))))) (.cons (.asg (.nm 9) (.bin .sub (.call 17 (.cons (.io 1) (.cons (.cst (.int (40))) .nil)) []) (.cst (.int (20))))) (.cons (.asg (.nm 12) (.lc (.bin .fdiv (.bin .sub (.bin .mul (.ixv 17 (.cst (.int (1)))) (.var 9)) (.ixv 17 (.cst (.int (2))))) (.ixv 17 (.cst (.int (0))))) (.nm 17) (.sq (.tup (.cons (.var 5) (.cons (.var 6) .nil)))) (.cst (.bl true)) [17])) (.cons (.fr (.nm 13) (.rg1 (.cst (.int (5)))) (.cons (.app 11 (.tup (.cons (.cst (.str "both")) (.cons (.var 9) (.cons (.bin .sub (.bin .add (.ixv 12 (.cst (.int (0)))) (.call 17 (.cons (.io 1) (.cons (.cst (.int (3))) .nil)) [])) (.cst (.int (1)))) (.cons (.bin .sub (.bin .add (.ixv 12 (.cst (.int (1)))) (.call 17 (.cons (.io 1) (.cons (.cst (.int (3))) .nil)) [])) (.cst (.int (1)))) .nil)))))) .nil)) (.cons (.ife (.cmp .eq (.ixv 7 (.cst (.int (0)))) (.cst (.str "both"))) (.cons (.ext 11 (.lst (.cons (.bin .add (.bin .add (.slv 7 (.cst .non) (.cst (.int (1)))) (.tup (.cons (.bin .add (.ixv 7 (.cst (.int (1)))) (.cst (.int (1)))) .nil))) (.slv 7 (.cst (.int (2))) (.cst .non))) (.cons (.bin .add (.slv 7 (.cst .non) (.cst (.int (2)))) (.tup (.cons (.ixv 7 (.cst (.int (3)))) (.cons (.ixv 7 (.cst (.int (2)))) .nil)))) (.cons (.slv 7 (.cst .non) (.cst (.int (3)))) .nil))))) .nil) .nil) (.cons (.ext 11 (.lc (.call 25 (.cons (.io 1) (.cons (.call 32 (.cons (.io 1) (.cons (.io 11) .nil)) []) .nil)) []) (.nm 13) (.rg1 (.cst (.int (4)))) (.cst (.bl true)) [13])) (.cons (.fr (.nm 14) (.sq (.var 11)) (.cons (.fr (.tp [15, 16]) (.sq (.var 3)) (.cons (.ife (.not (.call 20 (.cons (.call 28 (.cons (.cst (.str "judge")) (.cons (.var 15) (.cons (.var 16) (.cons (.var 14) .nil)))) []) (.cons (.call 30 (.cons (.var 15) (.cons (.var 16) (.cons (.var 14) .nil))) []) .nil)) [])) (.cons (.ret (.cst (.bl false))) .nil) .nil) .nil)) .nil)) .nil))))))))))))))) (.cons (.ret (.cst (.bl true))) .nil)))
def b84d31 : TDef := ⟨"law", top84 42, ["script", "stream", "turn", "pairs", "number", "one", "other", "told", "period", "day", "due", "values", "near", "step", "value", "first", "second", "world"], [false], b84law⟩
def b84_law_pick_io : CSs := (.cons (.ret (.ixv 1 (.call 17 (.cons (.io 0) (.cons (.lenv 1) .nil)) []))) .nil)
def b84d32 : TDef := ⟨"_law_pick", top84 29, ["stream", "rows"], [true, true], b84_law_pick_io⟩
def b84defs : List TDef := [b84d0, b84d1, b84d2, b84d3, b84d4, b84d5, b84d6, b84d7, b84d8, b84d9, b84d10, b84d11, b84d12, b84d13, b84d14, b84d15, b84d16, b84d17, b84d18, b84d19, b84d20, b84d21, b84d22, b84d23, b84d24, b84d25, b84d26, b84d27, b84d28, b84d29, b84d30, b84d31, b84d32]
def b84cs : List (Str × Int) := [("MOST_NUMBER", 1000000000000000000000000000000000000000000000000000000000000), ("MOST_PART", 100000)]
def b84T : Tab := TOf b84defs b84cs
theorem b84ok0 : b84d0.Ok b84T := ⟨by kernel_rfl, ⟨rfl, rfl, rfl, by decide +kernel, rfl, by decide +kernel, by decide +kernel⟩, rfl, fun _ _ _ _ _ _ us hl => match us, hl with | [_], _ => rfl⟩
theorem b84ok1 : b84d1.Ok b84T := ⟨by kernel_rfl, ⟨rfl, rfl, rfl, by decide +kernel, rfl, by decide +kernel, by decide +kernel⟩, rfl, fun _ _ _ _ _ _ us hl => match us, hl with | [_, _, _], _ => rfl⟩
theorem b84ok2 : b84d2.Ok b84T := ⟨by kernel_rfl, ⟨rfl, rfl, rfl, by decide +kernel, rfl, by decide +kernel, by decide +kernel⟩, rfl, fun _ _ _ _ _ _ us hl => match us, hl with | [_, _, _], _ => rfl⟩
theorem b84ok3 : b84d3.Ok b84T := ⟨by kernel_rfl, ⟨rfl, rfl, rfl, by decide +kernel, rfl, by decide +kernel, by decide +kernel⟩, rfl, fun _ _ _ _ _ _ us hl => match us, hl with | [_, _], _ => rfl⟩
theorem b84ok4 : b84d4.Ok b84T := ⟨by kernel_rfl, ⟨rfl, rfl, rfl, by decide +kernel, rfl, by decide +kernel, by decide +kernel⟩, rfl, fun _ _ _ _ _ _ us hl => match us, hl with | [_], _ => rfl⟩
theorem b84ok5 : b84d5.Ok b84T := ⟨by kernel_rfl, ⟨rfl, rfl, rfl, by decide +kernel, rfl, by decide +kernel, by decide +kernel⟩, rfl, fun _ _ _ _ _ _ us hl => match us, hl with | [_, _], _ => rfl⟩
theorem b84ok6 : b84d6.Ok b84T := ⟨by kernel_rfl, ⟨rfl, rfl, rfl, by decide +kernel, rfl, by decide +kernel, by decide +kernel⟩, rfl, fun _ _ _ _ _ _ us hl => match us, hl with | [_], _ => rfl⟩
theorem b84ok7 : b84d7.Ok b84T := ⟨by kernel_rfl, ⟨rfl, rfl, rfl, by decide +kernel, rfl, by decide +kernel, by decide +kernel⟩, rfl, fun _ _ _ _ _ _ us hl => match us, hl with | [_, _], _ => rfl⟩
theorem b84ok8 : b84d8.Ok b84T := ⟨by kernel_rfl, ⟨rfl, rfl, rfl, by decide +kernel, rfl, by decide +kernel, by decide +kernel⟩, rfl, fun _ _ _ _ _ _ us hl => match us, hl with | [_, _, _], _ => rfl⟩
theorem b84ok9 : b84d9.Ok b84T := ⟨by kernel_rfl, ⟨rfl, rfl, rfl, by decide +kernel, rfl, by decide +kernel, by decide +kernel⟩, rfl, fun _ _ _ _ _ _ us hl => match us, hl with | [_, _], _ => rfl⟩
theorem b84ok10 : b84d10.Ok b84T := ⟨by kernel_rfl, ⟨rfl, rfl, rfl, by decide +kernel, rfl, by decide +kernel, by decide +kernel⟩, rfl, fun _ _ _ _ _ _ us hl => match us, hl with | [_, _, _], _ => rfl⟩
theorem b84ok11 : b84d11.Ok b84T := ⟨by kernel_rfl, ⟨rfl, rfl, rfl, by decide +kernel, rfl, by decide +kernel, by decide +kernel⟩, rfl, fun _ _ _ _ _ _ us hl => match us, hl with | [_, _, _], _ => rfl⟩
theorem b84ok12 : b84d12.Ok b84T := ⟨by kernel_rfl, ⟨rfl, rfl, rfl, by decide +kernel, rfl, by decide +kernel, by decide +kernel⟩, rfl, fun _ _ _ _ _ _ us hl => match us, hl with | [_, _, _], _ => rfl⟩
theorem b84ok13 : b84d13.Ok b84T := ⟨by kernel_rfl, ⟨rfl, rfl, rfl, by decide +kernel, rfl, by decide +kernel, by decide +kernel⟩, rfl, fun _ _ _ _ _ _ us hl => match us, hl with | [_, _, _, _], _ => rfl⟩
theorem b84ok14 : b84d14.Ok b84T := ⟨by kernel_rfl, ⟨rfl, rfl, rfl, by decide +kernel, rfl, by decide +kernel, by decide +kernel⟩, rfl, fun _ _ _ _ _ _ us hl => match us, hl with | [_, _], _ => rfl⟩
theorem b84ok15 : b84d15.Ok b84T := ⟨by kernel_rfl, ⟨rfl, rfl, rfl, by decide +kernel, rfl, by decide +kernel, by decide +kernel⟩, rfl, fun _ _ _ _ _ _ us hl => match us, hl with | [_, _, _], _ => rfl⟩
theorem b84ok16 : b84d16.Ok b84T := ⟨by kernel_rfl, ⟨rfl, rfl, rfl, by decide +kernel, rfl, by decide +kernel, by decide +kernel⟩, rfl, fun _ _ _ _ _ _ us hl => match us, hl with | [_], _ => rfl⟩
theorem b84ok17 : b84d17.Ok b84T := ⟨by kernel_rfl, ⟨rfl, rfl, rfl, by decide +kernel, rfl, by decide +kernel, by decide +kernel⟩, rfl, fun _ _ _ _ _ _ us hl => match us, hl with | [_, _], _ => rfl⟩
theorem b84ok18 : b84d18.Ok b84T := ⟨by kernel_rfl, ⟨rfl, rfl, rfl, by decide +kernel, rfl, by decide +kernel, by decide +kernel⟩, rfl, fun _ _ _ _ _ _ us hl => match us, hl with | [_, _], _ => rfl⟩
theorem b84ok19 : b84d19.Ok b84T := ⟨by kernel_rfl, ⟨rfl, rfl, rfl, by decide +kernel, rfl, by decide +kernel, by decide +kernel⟩, rfl, fun _ _ _ _ _ _ us hl => match us, hl with | [_], _ => rfl⟩
theorem b84ok20 : b84d20.Ok b84T := ⟨by kernel_rfl, ⟨rfl, rfl, rfl, by decide +kernel, rfl, by decide +kernel, by decide +kernel⟩, rfl, fun _ _ _ _ _ _ us hl => match us, hl with | [_, _], _ => rfl⟩
theorem b84ok21 : b84d21.Ok b84T := ⟨by kernel_rfl, ⟨rfl, rfl, rfl, by decide +kernel, rfl, by decide +kernel, by decide +kernel⟩, rfl, fun _ _ _ _ _ _ us hl => match us, hl with | [_], _ => rfl⟩
theorem b84ok22 : b84d22.Ok b84T := ⟨by kernel_rfl, ⟨rfl, rfl, rfl, by decide +kernel, rfl, by decide +kernel, by decide +kernel⟩, rfl, fun _ _ _ _ _ _ us hl => match us, hl with | [_, _], _ => rfl⟩
theorem b84ok23 : b84d23.Ok b84T := ⟨by kernel_rfl, ⟨rfl, rfl, rfl, by decide +kernel, rfl, by decide +kernel, by decide +kernel⟩, rfl, fun _ _ _ _ _ _ us hl => match us, hl with | [_, _], _ => rfl⟩
theorem b84ok24 : b84d24.Ok b84T := ⟨by kernel_rfl, ⟨rfl, rfl, rfl, by decide +kernel, rfl, by decide +kernel, by decide +kernel⟩, rfl, fun _ _ _ _ _ _ us hl => match us, hl with | [_, _], _ => rfl⟩
theorem b84ok25 : b84d25.Ok b84T := ⟨by kernel_rfl, ⟨rfl, rfl, rfl, by decide +kernel, rfl, by decide +kernel, by decide +kernel⟩, rfl, fun _ _ _ _ _ _ us hl => match us, hl with | [_, _], _ => rfl⟩
theorem b84ok26 : b84d26.Ok b84T := ⟨by kernel_rfl, ⟨rfl, rfl, rfl, by decide +kernel, rfl, by decide +kernel, by decide +kernel⟩, rfl, fun _ _ _ _ _ _ us hl => match us, hl with | [_, _], _ => rfl⟩
theorem b84ok27 : b84d27.Ok b84T := ⟨by kernel_rfl, ⟨rfl, rfl, rfl, by decide +kernel, rfl, by decide +kernel, by decide +kernel⟩, rfl, fun _ _ _ _ _ _ us hl => match us, hl with | [_, _], _ => rfl⟩
theorem b84ok28 : b84d28.Ok b84T := ⟨by kernel_rfl, ⟨rfl, rfl, rfl, by decide +kernel, rfl, by decide +kernel, by decide +kernel⟩, rfl, fun _ _ _ _ _ _ us hl => match us, hl with | [_, _, _, _], _ => rfl⟩
theorem b84ok29 : b84d29.Ok b84T := ⟨by kernel_rfl, ⟨rfl, rfl, rfl, by decide +kernel, rfl, by decide +kernel, by decide +kernel⟩, rfl, fun _ _ _ _ _ _ us hl => match us, hl with | [_, _], _ => rfl⟩
theorem b84ok30 : b84d30.Ok b84T := ⟨by kernel_rfl, ⟨rfl, rfl, rfl, by decide +kernel, rfl, by decide +kernel, by decide +kernel⟩, rfl, fun _ _ _ _ _ _ us hl => match us, hl with | [_, _, _], _ => rfl⟩
theorem b84ok31 : b84d31.Ok b84T := ⟨by kernel_rfl, ⟨rfl, rfl, rfl, by decide +kernel, rfl, by decide +kernel, by decide +kernel⟩, rfl, fun _ _ _ _ _ _ us hl => match us, hl with | [_], _ => rfl⟩
theorem b84ok32 : b84d32.Ok b84T := ⟨by kernel_rfl, ⟨rfl, rfl, rfl, by decide +kernel, rfl, by decide +kernel, by decide +kernel⟩, rfl, fun _ _ _ _ _ _ us hl => match us, hl with | [_, _], _ => rfl⟩
theorem b84all : ∀ d ∈ b84defs, d.Ok b84T := by
  intro d hd
  simp only [b84defs, List.mem_cons, List.not_mem_nil, or_false] at hd
  rcases hd with rfl | rfl | rfl | rfl | rfl | rfl | rfl | rfl | rfl | rfl | rfl | rfl | rfl | rfl | rfl | rfl | rfl | rfl | rfl | rfl | rfl | rfl | rfl | rfl | rfl | rfl | rfl | rfl | rfl | rfl | rfl | rfl | rfl
  · exact b84ok0
  · exact b84ok1
  · exact b84ok2
  · exact b84ok3
  · exact b84ok4
  · exact b84ok5
  · exact b84ok6
  · exact b84ok7
  · exact b84ok8
  · exact b84ok9
  · exact b84ok10
  · exact b84ok11
  · exact b84ok12
  · exact b84ok13
  · exact b84ok14
  · exact b84ok15
  · exact b84ok16
  · exact b84ok17
  · exact b84ok18
  · exact b84ok19
  · exact b84ok20
  · exact b84ok21
  · exact b84ok22
  · exact b84ok23
  · exact b84ok24
  · exact b84ok25
  · exact b84ok26
  · exact b84ok27
  · exact b84ok28
  · exact b84ok29
  · exact b84ok30
  · exact b84ok31
  · exact b84ok32
end K84

-- K84P1
set_option maxHeartbeats 4000000
namespace K84
open PySem Pi
abbrev C (L n : Nat) : Oracle := Pi.call (tabOf b84defs) L n
theorem call_to {L n j : Nat} {d : TDef} {args : List Slot} (h : b84defs[j]? = some d) : C L (n + 1) j args = runDef (C L n) L ⟨d.mask, d.N.length, d.code⟩ args := by
  show Pi.call (tabOf b84defs) L (n + 1) j args = _
  have e : tabOf b84defs j = some ⟨d.mask, d.N.length, d.code⟩ := by
    unfold tabOf
    rw [h]
  unfold Pi.call
  rw [e]
section
variable {L n : Nat}
def isInt : D → Bool
  | .int _ => true
  | _ => false
def noFn : D → Bool
  | .fn _ => false
  | _ => true
theorem s_is_integer {d : D} (h : noFn d = true) : C L (n+1) 0 [.val d] = some (.val (.bl (isInt d)), []) := by
  rw [call_to (d := b84d0) rfl]
  cases d <;> first | cases h; done | (simp only [b84d0, b84is_integer]; simp_arith []; rfl)
theorem s_is_from_to {x a b : Int} : C L (n+2) 1 [.val (.int x), .val (.int a), .val (.int b)] = some (.val (.bl (decide (a ≤ x) && decide (x ≤ b))), []) := by
  rw [call_to (d := b84d1) rfl]
  simp only [b84d1, b84is_from_to]
  simp_arith [s_is_integer (d := .int x) rfl, isInt]
  cases decide (a ≤ x) <;> rfl
theorem s_is_tuple_of {ds : List D} {a b : Int} : C L (n+1) 2 [.val (.tup ds), .val (.int a), .val (.int b)] = some (.val (.bl (decide (a ≤ ds.length) && decide ((ds.length : Int) ≤ b))), []) := by
  rw [call_to (d := b84d2) rfl]
  simp only [b84d2, b84is_tuple_of]
  simp_arith []
  cases decide (a ≤ _) <;> rfl
theorem s_is_tuple_no {d : D} {a b : Int} (h : noFn d = true) (h2 : ∀ ds, d ≠ .tup ds) : C L (n+1) 2 [.val d, .val (.int a), .val (.int b)] = some (.val (.bl false), []) := by
  rw [call_to (d := b84d2) rfl]
  simp only [b84d2, b84is_tuple_of]
  cases d <;> first | cases h; done | exact absurd rfl (h2 _) | (simp_arith []; done)
abbrev W (p q c : Int) : D := .tup [.int p, .int q, .int c]
theorem s_day_among {p q c e : Int} (hp : MulOk p e) (hq : DivOk q) : C L (n+1) 7 [.val (W p q c), .val (.int e)] = some (.val (.int ((p * e + c) / q)), []) := by
  rw [call_to (d := b84d7) rfl]
  simp only [b84d7, b84day_among]
  simp_arith [decide_eq_true hp, fdiv_int hq]
theorem s_law_day {p q c e : Int} (hp : MulOk p e) (hq : DivOk q) : C L (n+1) 24 [.val (W p q c), .val (.int e)] = some (.val (.int ((p * e + c) / q)), []) := by
  rw [call_to (d := b84d24) rfl]
  simp only [b84d24, b84_law_day]
  simp_arith [decide_eq_true hp, fdiv_int hq]
theorem s_first_event {p q c e : Int} (hp : MulOk q e) (hq : DivOk p) : C L (n+1) 9 [.val (W p q c), .val (.int e)] = some (.val (.int (-((c - q * e) / p))), []) := by
  rw [call_to (d := b84d9) rfl]
  simp only [b84d9, b84first_event]
  simp_arith [decide_eq_true hp, fdiv_int hq]
theorem s_has_rest {p q c m r : Int} (hp : MulOk q r) (hq : 0 < m) : C L (n+1) 10 [.val (W p q c), .val (.int m), .val (.int r)] = some (.val (.bl (decide (m ≤ q) || decide ((q * r + q - 1 - c) % m < q))), []) := by
  rw [call_to (d := b84d10) rfl]
  simp only [b84d10, b84has_rest]
  simp_arith [decide_eq_true hp, mod_int hq]
  cases decide (m ≤ q) <;> rfl
end
end K84

-- K84P2
set_option maxHeartbeats 4000000
namespace K84
open PySem Pi
theorem gcd_step (a b : Int) : Int.gcd b (a % b) = Int.gcd a b := by
  have e : a % b = a - (a / b) * b := by
    have := Int.emod_add_mul_ediv a b
    rw [Int.mul_comm (a / b) b]
    omega
  rw [e, Int.gcd_sub_mul_right_right, Int.gcd_comm]
theorem cop_dvd {m k x : Int} (h : Int.gcd m k = 1) (hd : m ∣ k * x) : m ∣ x := by
  rw [← Int.natAbs_dvd_natAbs, Int.natAbs_mul] at hd
  rw [← Int.natAbs_dvd_natAbs]
  exact Nat.Coprime.dvd_of_dvd_mul_left h hd
theorem dvd_of_gcd {a b : Int} {g : Int} (h1 : g ∣ a) (h2 : g ∣ b) (h : Int.gcd a b = 1) : g.natAbs = 1 := by
  have h3 := Int.dvd_coe_gcd h1 h2
  rw [h] at h3
  have := Int.natAbs_dvd_natAbs.mpr h3
  exact Nat.dvd_one.mp this
section
variable {L n : Nat} {cl : Oracle}
theorem gcd_loop : ∀ (m : Nat) (a b : Int), 0 ≤ b → b.toNat < m → ∃ g : Int, g.natAbs = Int.gcd a b ∧
    doW cl L (.var 1) (.cons (.asl [0, 1] (.cons (.var 1) (.cons (.bin .mod (.var 0) (.var 1)) .nil))) .nil) m [.val (.int a), .val (.int b)] = some (.nx [.val (.int g), .val (.int 0)])
  | 0, a, b, _, h => by omega
  | m + 1, a, b, h0, h => by
    rw [w_succ]
    by_cases hb : b = 0
    · subst hb
      exact ⟨a, by rw [Int.gcd_zero_right], by simp_arith []⟩
    · have hb' : (b != 0) = true := by simpa using hb
      have hp : 0 < b := by omega
      have h1 := Int.emod_nonneg a hb
      have h2 := Int.emod_lt_of_pos a hp
      obtain ⟨g, e1, e2⟩ := gcd_loop m b (a % b) h1 (by omega)
      refine ⟨g, by rw [e1, gcd_step], ?_⟩
      simp_arith [hb', mod_int hp]
      exact e2
theorem s_common_divisor {a b : Int} (hb : 0 ≤ b) (hL : b.toNat < L) : C L (n+1) 3 [.val (.int a), .val (.int b)] = some (.val (.int (Int.gcd a b)), []) := by
  rw [call_to (d := b84d3) rfl]
  simp only [b84d3, b84common_divisor]
  obtain ⟨g, e1, e2⟩ := gcd_loop (cl := C L n) (L := L) L a b hb hL
  simp_arith [e2]
  have : (if g < 0 then -g else g) = (Int.gcd a b : Int) := by
    rw [← e1]
    split <;> omega
  rw [this]
theorem inv_loop {p q : Int} (hq : 1 ≤ q) (hq2 : q < 2 ^ 62) : ∀ (m : Nat) (one two low high : Int) (w : Slot), nio w = true → 0 ≤ two → two.toNat < m → 0 < one → one ≤ q → two ≤ q → Int.gcd one two = 1 → (two = 0 → q = 1) → q ∣ low * p - one → q ∣ high * p - two →
    ∃ (one' two' low' high' : Int) (w' : Slot), nio w' = true ∧ two' ≤ 1 ∧ 0 ≤ two' ∧ (two' = 0 → q = 1) ∧ q ∣ high' * p - two' ∧
    doW cl L (.cmp .gt (.var 3) (.cst (.int (1)))) (.cons (.asg (.nm 6) (.bin .fdiv (.var 2) (.var 3))) (.cons (.asl [2, 3] (.cons (.var 3) (.cons (.bin .sub (.var 2) (.bin .mul (.var 6) (.var 3))) .nil))) (.cons (.asl [4, 5] (.cons (.var 5) (.cons (.bin .sub (.var 4) (.bin .mul (.var 6) (.var 5))) .nil))) .nil))) m
      [.val (.int p), .val (.int q), .val (.int one), .val (.int two), .val (.int low), .val (.int high), w] = some (.nx [.val (.int p), .val (.int q), .val (.int one'), .val (.int two'), .val (.int low'), .val (.int high'), w'])
  | 0, one, two, low, high, w, _, _, h, _, _, _, _, _, _, _ => by omega
  | m + 1, one, two, low, high, w, hw, h0, hm, h1, h1q, h2q, hg, hz, d1, d2 => by
    rw [w_succ]
    by_cases ht : 1 < two
    · have hd : DivOk two := divOk_of (by omega) (by omega)
      have e : one - one / two * two = one % two := by
        have := Int.emod_add_mul_ediv one two
        rw [Int.mul_comm (one / two) two]
        omega
      have q1 := Int.emod_nonneg one (show two ≠ 0 by omega)
      have q2 := Int.emod_lt_of_pos one (show 0 < two by omega)
      have q3 : 0 ≤ one / two := Int.ediv_nonneg (by omega) (by omega)
      have q4 : one / two ≤ one := Int.ediv_le_self _ (by omega)
      have hm1 : MulOk (one / two) two := mulOk_r (by omega) (by omega)
      have hm2 : MulOk (one / two) high := mulOk_l (by omega) (by omega)
      have hg' : Int.gcd two (one % two) = 1 := by rw [gcd_step]; exact hg
      have hz' : one % two = 0 → q = 1 := fun hz => by
        rw [hz, Int.gcd_zero_right] at hg'
        omega
      have d3 : q ∣ (low - one / two * high) * p - one % two := by
        have e2 : (low - one / two * high) * p - one % two = (low * p - one) - one / two * (high * p - two) := by
          rw [← e]
          grind
        rw [e2]
        exact Int.dvd_sub d1 (Int.dvd_mul_of_dvd_right d2)
      obtain ⟨o', t', l', h', w', r1, r2, r3, r4, r5, r6⟩ := inv_loop hq hq2 m two (one % two) high (low - one / two * high) (.val (.int (one / two))) rfl q1 (by omega) (by omega) (by omega) (by omega) hg' hz' d2 d3
      refine ⟨o', t', l', h', w', r1, r2, r3, r4, r5, ?_⟩
      simp_arith [decide_eq_true ht, fdiv_int hd, decide_eq_true hm1, decide_eq_true hm2, hw, e]
      exact r6
    · refine ⟨one, two, low, high, w, hw, by omega, h0, hz, d2, ?_⟩
      simp_arith [decide_eq_false ht]
theorem s_inverse {p q : Int} (hq : 1 ≤ q) (hq2 : q < 2 ^ 62) (hg : Int.gcd p q = 1) (hL : q.toNat < L) : ∃ r : Int, C L (n+1) 5 [.val (.int p), .val (.int q)] = some (.val (.int r), []) ∧ 0 ≤ r ∧ r < q ∧ q ∣ r * p - 1 := by
  have q1 := Int.emod_nonneg p (show q ≠ 0 by omega)
  have q2 := Int.emod_lt_of_pos p (show 0 < q by omega)
  have hg' : Int.gcd q (p % q) = 1 := by rw [gcd_step]; exact hg
  have hz' : p % q = 0 → q = 1 := fun hz => by
    rw [hz, Int.gcd_zero_right] at hg'
    omega
  have d2 : q ∣ 1 * p - p % q := by
    rw [Int.one_mul]
    exact Int.dvd_self_sub_emod
  obtain ⟨o', t', l', h', w', r1, r2, r3, r4, r5, r6⟩ := inv_loop (cl := C L n) (L := L) (p := p) hq hq2 L q (p % q) 0 1 .nil rfl q1 (by omega) (by omega) (by omega) (by omega) hg' hz' (by rw [Int.zero_mul, Int.zero_sub]; exact Int.dvd_neg.mpr (Int.dvd_refl q)) d2
  have hq0 : 0 < q := by omega
  refine ⟨h' % q, ?_, Int.emod_nonneg _ (by omega), Int.emod_lt_of_pos _ hq0, ?_⟩
  · rw [call_to (d := b84d5) rfl]
    simp only [b84d5, b84inverse]
    simp_arith [r6, mod_int hq0]
  · have e1 : q ∣ h' * p - 1 := by
      by_cases ht : t' = 0
      · rw [r4 ht]
        exact Int.one_dvd _
      · have : t' = 1 := by omega
        rw [this] at r5
        exact r5
    have e2 : h' % q * p - 1 = (h' * p - 1) - (h' / q * p) * q := by
      have := Int.emod_add_mul_ediv h' q
      grind
    rw [e2]
    exact Int.dvd_sub e1 (Int.dvd_mul_left _ _)
end
end K84

-- K84P3
set_option maxHeartbeats 4000000
namespace K84
open PySem Pi
structure GW (p q c : Int) : Prop where
  p1 : 1 ≤ p
  p2 : p ≤ 14
  q1 : 1 ≤ q
  q2 : q ≤ 14
  g : Int.gcd p q = 1
  c1 : -100 ≤ c
  c2 : c ≤ 100
theorem cut2 (a b c : D) : cutD [a, b, c] none (some 2) = [a, b] := rfl
section
variable {L n : Nat}
theorem s_is_fraction {p q : Int} (p1 : -100000 ≤ p) (p2 : p ≤ 100000) (q1 : 1 ≤ q) (q2 : q ≤ 100000) (g : Int.gcd p q = 1) (hL : q.toNat < L) : C L (n+3) 4 [.val (.tup [.int p, .int q])] = some (.val (.bl true), []) := by
  rw [call_to (d := b84d4) rfl]
  simp only [b84d4, b84is_fraction]
  have a1 : (-1000000000000000000000000000000000000000000000000000000000000 : Int) ≤ p := by omega
  have a2 : p ≤ (1000000000000000000000000000000000000000000000000000000000000 : Int) := by omega
  have a3 : q ≤ (1000000000000000000000000000000000000000000000000000000000000 : Int) := by omega
  simp_arith [s_is_tuple_of (L := L) (n := n + 1), s_is_from_to (L := L) (n := n), s_common_divisor (L := L) (n := n + 1) (a := p) (b := q) (by omega) hL, g, decide_eq_true a1, decide_eq_true a2, decide_eq_true a3, decide_eq_true q1]
theorem s_is_world {p q c : Int} (G : GW p q c) (hL : 14 < L) : C L (n+4) 6 [.val (W p q c)] = some (.val (.bl true), []) := by
  rw [call_to (d := b84d6) rfl]
  simp only [b84d6, b84is_world]
  have a1 : (-1000000000000000000000000000000000000000000000000000000000000 : Int) ≤ c := by have := G.c1; omega
  have a2 : c ≤ (1000000000000000000000000000000000000000000000000000000000000 : Int) := by have := G.c2; omega
  have hf := s_is_fraction (L := L) (n := n) (p := p) (q := q) (by have := G.p1; omega) (by have := G.p2; omega) G.q1 (by have := G.q2; omega) G.g (by have := G.q2; omega)
  simp_arith [s_is_tuple_of (L := L) (n := n + 2), sl_tup part_non part_int, cut2, hf, s_is_from_to (L := L) (n := n + 1), decide_eq_true a1, decide_eq_true a2]
theorem s_check_pair {p q c p' q' c' : Int} (G : GW p q c) (G' : GW p' q' c') (hL : 14 < L) : C L (n+5) 8 [.val (W p q c), .val (W p' q' c'), .val (.int 100000)] = some (.val .non, []) := by
  rw [call_to (d := b84d8) rfl]
  simp only [b84d8, b84check_pair]
  have g1 := G.p1; have g2 := G.p2; have g3 := G.q2
  have k1 := G'.p1; have k2 := G'.p2; have k3 := G'.q2
  have a1 : p ≤ 100000 := by omega
  have a2 : ¬ 100000 < q := by omega
  have a3 : p' ≤ 100000 := by omega
  have a4 : ¬ 100000 < q' := by omega
  simp_arith [f_cons, s_is_world (n := n) G hL, s_is_world (n := n) G' hL, s_is_from_to (L := L) (n := n + 2), decide_eq_true g1, decide_eq_true a1, decide_eq_false a2, decide_eq_true k1, decide_eq_true a3, decide_eq_false a4]
def hit (p q c d : Int) : Bool := decide ((c - q * d) % p < q)
def hasR (q c m r : Int) : Bool := decide (m ≤ q) || decide ((q * r + q - 1 - c) % m < q)
def comR (q c q' c' m : Int) (r : Int) : Bool := hasR q c m r && hasR q' c' m r
def firstR (f : Int → Bool) : List Int → Option Int
  | [] => none
  | r :: rs => if f r = true then some r else firstR f rs
theorem firstR_some {f : Int → Bool} : ∀ {rs : List Int} {r : Int}, firstR f rs = some r → r ∈ rs ∧ f r = true
  | [], r, h => by cases h
  | x :: rs, r, h => by
    unfold firstR at h
    split at h
    · cases h
      exact ⟨List.mem_cons_self, by assumption⟩
    · have := firstR_some h
      exact ⟨List.mem_cons_of_mem _ this.1, this.2⟩
theorem firstR_none {f : Int → Bool} : ∀ {rs : List Int}, firstR f rs = none → ∀ r ∈ rs, f r = false
  | [], h, r, hr => by cases hr
  | x :: rs, h, r, hr => by
    unfold firstR at h
    split at h
    · cases h
    · rcases List.mem_cons.mp hr with e | e
      · subst e
        simpa using (by assumption : ¬ f r = true)
      · exact firstR_none h r e
theorem range_ints (m : Nat) : rangeD 0 m = ((List.range m).map fun (k : Nat) => (k : Int)).map D.int := by
  unfold rangeD
  rw [List.map_map]
  congr 1
  funext k
  simp
theorem mulS {i j : Int} (h : -1000 ≤ i ∧ i ≤ 1000) : MulOk i j := mulOk_l (by omega) (by omega)
theorem common_loop {p q c p' q' c' m : Int} (G : GW p q c) (G' : GW p' q' c') (hm : 0 < m) : ∀ (rs : List Int) (s : Slot), nio s = true →
    ∃ s', nio s' = true ∧ doF (C L (n+1)) L (.nm 3) (.cons (.ife (.and (.call 10 (.cons (.var 0) (.cons (.var 2) (.cons (.var 3) .nil))) []) (.call 10 (.cons (.var 1) (.cons (.var 2) (.cons (.var 3) .nil))) [])) (.cons (.retv 3) .nil) .nil) .nil) (rs.map D.int) [.val (W p q c), .val (W p' q' c'), .val (.int m), s] =
      match firstR (comR q c q' c' m) rs with
      | some r => some (.rt (.val (.int r)) [.val (W p q c), .val (W p' q' c'), .val (.int m), s'])
      | none => some (.nx [.val (W p q c), .val (W p' q' c'), .val (.int m), s'])
  | [], s, hs => ⟨s, hs, rfl⟩
  | r :: rs, s, hs => by
    have h1 : MulOk q r := mulS (by have := G.q1; have := G.q2; omega)
    have h2 : MulOk q' r := mulS (by have := G'.q1; have := G'.q2; omega)
    by_cases e : comR q c q' c' m r = true
    · refine ⟨.val (.int r), rfl, ?_⟩
      have e' := e
      unfold comR hasR at e'
      rw [Bool.and_eq_true] at e'
      unfold firstR
      rw [if_pos e]
      simp_arith [f_cons, hs, s_has_rest (L := L) (n := n) (p := p) (c := c) h1 hm, s_has_rest (L := L) (n := n) (p := p') (c := c') h2 hm, e'.1, e'.2]
    · obtain ⟨s', i1, i2⟩ := common_loop G G' hm rs (.val (.int r)) rfl
      refine ⟨s', i1, ?_⟩
      have e' : comR q c q' c' m r = false := by simpa using e
      unfold comR at e'
      unfold firstR
      rw [if_neg e, ← i2]
      by_cases k : hasR q c m r = true
      · rw [k, Bool.true_and] at e'
        unfold hasR at e' k
        simp_arith [f_cons, hs, s_has_rest (L := L) (n := n) (p := p) (c := c) h1 hm, s_has_rest (L := L) (n := n) (p := p') (c := c') h2 hm, e', k]
      · have k' : hasR q c m r = false := by simpa using k
        unfold hasR at k'
        simp_arith [f_cons, hs, s_has_rest (L := L) (n := n) (p := p) (c := c) h1 hm, s_has_rest (L := L) (n := n) (p := p') (c := c') h2 hm, k']
def restsTo (m : Int) : List Int := (List.range m.toNat).map fun (k : Nat) => (k : Int)
theorem s_common_rest {p q c p' q' c' m : Int} (G : GW p q c) (G' : GW p' q' c') (hm : 0 < m) (hm2 : m ≤ 1000000) : C L (n+2) 11 [.val (W p q c), .val (W p' q' c'), .val (.int m)] = some (.val (match firstR (comR q c q' c' m) (restsTo m) with | some r => .int r | none => .non), []) := by
  rw [call_to (d := b84d11) rfl]
  simp only [b84d11, b84common_rest]
  obtain ⟨s', h1, h2⟩ := common_loop (L := L) (n := n) G G' hm (restsTo m) .nil rfl
  have hr : rangeD 0 m.toNat = (restsTo m).map D.int := range_ints _
  have hs : decide (Small m ∧ m ≤ 16777216) = true := decide_eq_true ⟨⟨by omega, by omega⟩, by omega⟩
  simp_arith [hs, hr, h2]
  cases firstR (comR q c q' c' m) (restsTo m) <;> simp_arith []
end
end K84

-- K84P4
set_option maxHeartbeats 4000000
namespace K84
open PySem Pi
theorem emod_of {x p r : Int} (h0 : 0 ≤ r) (h1 : r < p) (h : p ∣ x - r) : x % p = r := by
  have e : x % p = r % p := by
    rw [Int.emod_eq_emod_iff_emod_sub_eq_zero]
    exact Int.emod_eq_zero_of_dvd h
  rw [e, Int.emod_eq_of_lt h0 h1]
theorem hit_mod {p q c d d' : Int} (h : p ∣ d - d') : hit p q c d = hit p q c d' := by
  unfold hit
  have e : (c - q * d) % p = (c - q * d') % p := by
    rw [Int.emod_eq_emod_iff_emod_sub_eq_zero]
    apply Int.emod_eq_zero_of_dvd
    have : c - q * d - (c - q * d') = -(q * (d - d')) := by grind
    rw [this]
    exact Int.dvd_neg.mpr (Int.dvd_mul_of_dvd_right h)
  rw [e]
theorem day_ok {p q c m r i : Int} (hp : 0 < p) (hq : 1 ≤ q) (hqp : q < p) (hg : Int.gcd p q = 1) (hm : 0 < m) (hmp : m ∣ p) (hr : hasR q c m r = true) (hi : p ∣ i * q - 1) :
    hit p q c (((q * r + q - 1 - c) % m - q + 1 + c) * i % p) = true ∧ m ∣ ((q * r + q - 1 - c) % m - q + 1 + c) * i % p - r := by
  have l0 := Int.emod_nonneg (q * r + q - 1 - c) (show m ≠ 0 by omega)
  have l1 := Int.emod_lt_of_pos (q * r + q - 1 - c) hm
  have l2 : (q * r + q - 1 - c) % m < q := by
    unfold hasR at hr
    rw [Bool.or_eq_true, decide_eq_true_eq, decide_eq_true_eq] at hr
    omega
  have l3 : m ∣ (q * r + q - 1 - c) - (q * r + q - 1 - c) % m := Int.dvd_self_sub_emod
  generalize hl : (q * r + q - 1 - c) % m = left at *
  have d1 : p ∣ (left - q + 1 + c) * i - (left - q + 1 + c) * i % p := Int.dvd_self_sub_emod
  generalize hd : (left - q + 1 + c) * i % p = d at *
  -- q d is the number sought
  have d2 : p ∣ q * d - (left - q + 1 + c) := by
    have e : q * d - (left - q + 1 + c) = (left - q + 1 + c) * (i * q - 1) - q * ((left - q + 1 + c) * i - d) := by grind
    rw [e]
    exact Int.dvd_sub (Int.dvd_mul_of_dvd_right hi) (Int.dvd_mul_of_dvd_right d1)
  constructor
  · unfold hit
    have e : (c - q * d) % p = q - 1 - left := by
      apply emod_of (by omega) (by omega)
      have e : c - q * d - (q - 1 - left) = -(q * d - (left - q + 1 + c)) := by omega
      rw [e]
      exact Int.dvd_neg.mpr d2
    rw [e]
    exact decide_eq_true (by omega)
  · have d3 : m ∣ q * (d - r) := by
      have e : q * (d - r) = (q * d - (left - q + 1 + c)) - ((q * r + q - 1 - c) - left) := by grind
      rw [e]
      exact Int.dvd_sub (Int.dvd_trans hmp d2) l3
    have hg' : Int.gcd m q = 1 := by
      have h1 := Int.gcd_dvd_left m q
      have h2 := Int.gcd_dvd_right m q
      have := dvd_of_gcd (Int.dvd_trans h1 hmp) h2 hg
      simpa using this
    exact cop_dvd hg' d3
section
variable {L n : Nat}
theorem s_day_with {p q c m r : Int} (G : GW p q c) (hm : 0 < m) (hmp : m ∣ p) (h0 : 0 ≤ r) (h1 : r < m) (hr : hasR q c m r = true) (hL : 20 < L) :
    ∃ d : Int, C L (n+2) 12 [.val (W p q c), .val (.int m), .val (.int r)] = some (.val (.int d), []) ∧ 0 ≤ d ∧ d ≤ 14 ∧ hit p q c d = true ∧ m ∣ d - r := by
  have g1 := G.p1; have g2 := G.p2; have g3 := G.q1; have g4 := G.q2; have g5 := G.c1; have g6 := G.c2
  have hmle : m ≤ p := Int.le_of_dvd (by omega) hmp
  rw [call_to (d := b84d12) rfl]
  simp only [b84d12, b84day_with]
  by_cases hqp : p ≤ q
  · refine ⟨r, ?_, h0, by omega, ?_, ?_⟩
    · simp_arith [decide_eq_true hqp]
    · unfold hit
      have := Int.emod_lt_of_pos (c - q * r) (show 0 < p by omega)
      exact decide_eq_true (by omega)
    · rw [Int.sub_self]
      exact Int.dvd_zero m
  · have hqp' : q < p := by omega
    obtain ⟨i, i1, i2, i3, i4⟩ := s_inverse (L := L) (n := n) (p := q) (q := p) g1 (by omega) (by rw [Int.gcd_comm]; exact G.g) (by omega)
    obtain ⟨e1, e2⟩ := day_ok (by omega) g3 hqp' G.g hm hmp hr i4
    have hp0 : 0 < p := by omega
    refine ⟨((q * r + q - 1 - c) % m - q + 1 + c) * i % p, ?_, Int.emod_nonneg _ (by omega), ?_, e1, e2⟩
    · have hm1 : Pi.MulOk q r := mulS (by omega)
      have hm2 : Pi.MulOk ((q * r + q - 1 - c) % m - q + 1 + c) i := mulOk_r (by omega) (by omega)
      simp_arith [decide_eq_false (show ¬ p ≤ q by omega), decide_eq_true hm1, mod_int hm, mod_int hp0, i1, decide_eq_true hm2]
    · have := Int.emod_lt_of_pos (((q * r + q - 1 - c) % m - q + 1 + c) * i) hp0
      omega
theorem s_day_both {p q c p' q' c' r : Int} (G : GW p q c) (G' : GW p' q' c') (h0 : 0 ≤ r) (h1 : r < (Int.gcd p p' : Int)) (hr : comR q c q' c' (Int.gcd p p') r = true) (hL : 20 < L) :
    ∃ d : Int, C L (n+3) 13 [.val (W p q c), .val (W p' q' c'), .val (.int (Int.gcd p p')), .val (.int r)] = some (.val (.int d), []) ∧ 0 ≤ d ∧ d ≤ 300 ∧ hit p q c d = true ∧ hit p' q' c' d = true := by
  have g1 := G.p1; have g2 := G.p2; have k1 := G'.p1; have k2 := G'.p2
  have hmp := Int.gcd_dvd_left p p'
  have hmp' := Int.gcd_dvd_right p p'
  have hm : 0 < (Int.gcd p p' : Int) := by omega
  have hcop : Int.gcd (p / (Int.gcd p p' : Int)) (p' / (Int.gcd p p' : Int)) = 1 := Int.gcd_ediv_gcd_ediv_gcd (by omega)
  generalize hmm : (Int.gcd p p' : Int) = m at *
  unfold comR at hr
  rw [Bool.and_eq_true] at hr
  obtain ⟨one, a1, a2, a3, a4, a5⟩ := s_day_with (L := L) (n := n) G hm hmp h0 h1 hr.1 hL
  obtain ⟨two, b1, b2, b3, b4, b5⟩ := s_day_with (L := L) (n := n) G' hm hmp' h0 h1 hr.2 hL
  have hle : m ≤ p := Int.le_of_dvd (by omega) hmp
  have hle' : m ≤ p' := Int.le_of_dvd (by omega) hmp'
  have e1 : m * (p / m) = p := Int.mul_ediv_cancel' hmp
  have e2 : m * (p' / m) = p' := Int.mul_ediv_cancel' hmp'
  have t1 : 0 < p' / m := Int.ediv_pos_of_pos_of_dvd (by omega) (by omega) hmp'
  have t2 : p' / m ≤ p' := Int.ediv_le_self _ (by omega)
  obtain ⟨i, i1, i2, i3, i4⟩ := s_inverse (L := L) (n := n + 1) (p := p / m) (q := p' / m) (by omega) (by omega) hcop (by omega)
  have hd : m ∣ two - one := by
    have e : two - one = (two - r) - (one - r) := by omega
    rw [e]
    exact Int.dvd_sub b5 a5
  have e3 : m * ((two - one) / m) = two - one := Int.mul_ediv_cancel' hd
  have tn := Int.emod_nonneg ((two - one) / m * i) (show p' / m ≠ 0 by omega)
  have tl := Int.emod_lt_of_pos ((two - one) / m * i) t1
  have td : p' / m ∣ (two - one) / m * i - (two - one) / m * i % (p' / m) := Int.dvd_self_sub_emod
  have bnd : (two - one) / m * i % (p' / m) * p ≤ 14 * 14 := Int.mul_le_mul (by omega) (by omega) (by omega) (by omega)
  have bnd0 : 0 ≤ (two - one) / m * i % (p' / m) * p := Int.mul_nonneg tn (by omega)
  refine ⟨one + (two - one) / m * i % (p' / m) * p, ?_, by omega, by omega, ?_, ?_⟩
  · rw [call_to (d := b84d13) rfl]
    simp only [b84d13, b84day_among_both]
    have hm1 : Pi.MulOk ((two - one) / m) i := mulOk_r (by omega) (by omega)
    have hm2 : Pi.MulOk ((two - one) / m * i % (p' / m)) p := mulOk_r (by omega) (by omega)
    simp_arith [a1, b1, fdiv_int (divOk_of hm (by omega)), i1, mod_int t1, decide_eq_true hm1, decide_eq_true hm2]
  · rw [hit_mod (d' := one)]
    · exact a4
    · have e : one + (two - one) / m * i % (p' / m) * p - one = (two - one) / m * i % (p' / m) * p := by omega
      rw [e]
      exact Int.dvd_mul_left _ _
  · rw [hit_mod (d' := two)]
    · exact b4
    · generalize (two - one) / m * i % (p' / m) = t at *
      generalize (two - one) / m = k at *
      have e : one + t * p - two = m * (t * (p / m) - k) := by grind
      rw [e]
      have d1 : p' / m ∣ t * (p / m) - k := by
        have e : t * (p / m) - k = k * (i * (p / m) - 1) - (k * i - t) * (p / m) := by grind
        rw [e]
        exact Int.dvd_sub (Int.dvd_mul_of_dvd_right i4) (Int.dvd_mul_of_dvd_left td)
      have := Int.mul_dvd_mul_left m d1
      rwa [e2] at this
theorem s_both_paper {p q c p' q' c' : Int} (G : GW p q c) (G' : GW p' q' c') (hL : 20 < L) :
    (firstR (comR q c q' c' (Int.gcd p p')) (restsTo (Int.gcd p p')) = none ∧ C L (n+6) 14 [.val (W p q c), .val (W p' q' c')] = some (.val (.tup [.str "never", .int (Int.gcd p p')]), [])) ∨
    ∃ d : Int, 0 ≤ d ∧ d ≤ 300 ∧ hit p q c d = true ∧ hit p' q' c' d = true ∧ C L (n+6) 14 [.val (W p q c), .val (W p' q' c')] = some (.val (.tup [.str "both", .int d, .int (-((c - q * d) / p)), .int (-((c' - q' * d) / p'))]), []) := by
  have g1 := G.p1; have g2 := G.p2; have k1 := G'.p1; have k2 := G'.p2
  have hg := s_common_divisor (L := L) (n := n + 4) (a := p) (b := p') (by omega) (by omega)
  have hm : 0 < (Int.gcd p p' : Int) := by
    have : Int.gcd p p' ≠ 0 := by rw [Ne, Int.gcd_eq_zero_iff]; omega
    omega
  have hle : (Int.gcd p p' : Int) ≤ p := Int.le_of_dvd (by omega) (Int.gcd_dvd_left p p')
  have hc := s_common_rest (L := L) (n := n + 3) G G' hm (by omega)
  have hk := s_check_pair (L := L) (n := n) G G' (by omega)
  rw [call_to (d := b84d14) rfl]
  simp only [b84d14, b84both_paper]
  cases hf : firstR (comR q c q' c' (Int.gcd p p')) (restsTo (Int.gcd p p')) with
  | none =>
    rw [hf] at hc
    refine .inl ⟨rfl, ?_⟩
    simp_arith [hk, hg, hc]
  | some r =>
    rw [hf] at hc
    obtain ⟨hr1, hr2⟩ := firstR_some hf
    have hr : 0 ≤ r ∧ r < (Int.gcd p p' : Int) := by
      unfold restsTo at hr1
      obtain ⟨k, hk, e⟩ := List.mem_map.mp hr1
      have := List.mem_range.mp hk
      omega
    obtain ⟨d, d1, d2, d3, d4, d5⟩ := s_day_both (L := L) (n := n + 2) G G' hr.1 hr.2 hr2 hL
    refine .inr ⟨d, d2, d3, d4, d5, ?_⟩
    have f1 := s_first_event (L := L) (n := n + 4) (p := p) (q := q) (c := c) (e := d) (mulOk_r (by omega) (by omega)) (divOk_of (by omega) (by omega))
    have f2 := s_first_event (L := L) (n := n + 4) (p := p') (q := q') (c := c') (e := d) (mulOk_r (by omega) (by omega)) (divOk_of (by omega) (by omega))
    simp_arith [hk, hg, hc, d1, f1, f2]
end
end K84

-- K84P5
set_option maxHeartbeats 4000000
namespace K84
open PySem Pi
def txts : List Str := ["beat", "steps", "both", "never", "from", "by", "at least", "below", "botha", "nevera", "bot", "neve"]
def flat : D → Bool
  | .int i => decide (-(10 ^ 12) ≤ i ∧ i ≤ 10 ^ 12)
  | .str s => decide (s ∈ txts)
  | .bl _ => true
  | .non => true
  | _ => false
def vok : D → Bool
  | .tup ds => decide (ds.length ≤ 40) && ds.all flat
  | .ls ds => decide (ds.length ≤ 40) && ds.all flat
  | d => flat d
theorem flat_noFn {d : D} (h : flat d = true) : noFn d = true := by cases d <;> first | rfl | cases h
theorem vok_noFn {d : D} (h : vok d = true) : noFn d = true := by cases d <;> first | rfl | cases h
theorem doC_pure {cl : Oracle} {elt : CE} {t : Tg} {cond : CE} {vs : List Nat} {env : En} (g : D → Option D) : ∀ (xs acc : List D), (∀ x ∈ xs, stepC cl elt t cond vs x env = some (g x, env)) → doC cl elt t cond vs xs env acc = some (acc ++ xs.filterMap g, env)
  | [], acc, _ => by rw [d_nil]; simp
  | x :: xs, acc, h => by
    rw [d_cons, h x List.mem_cons_self, bindO_some]
    cases hg : g x with
    | none =>
      simp only
      rw [doC_pure g xs acc fun y hy => h y (List.mem_cons_of_mem _ hy), List.filterMap_cons, hg]
    | some d =>
      simp only
      rw [doC_pure g xs (acc ++ [d]) fun y hy => h y (List.mem_cons_of_mem _ hy), List.filterMap_cons, hg]
      simp
theorem pow6 : evalBin .pow (.int 10) (.int 6) = some (.val (.int 1000000)) := by rfl
section
variable {L n : Nat}
theorem plain_loop {v : D} : ∀ (k : Nat) (xs left : List D) (s2 s3 : Slot), left.length = k → k < xs.length → nio s2 = true → nio s3 = true → (∀ x ∈ left, flat x = true) →
    ∃ e, doF (C L n) L (.nm 2) (.cons (.ife (.cmp .eq (.lenv 1) (.cst (.int (0)))) (.cons (.ret (.cst (.bl true))) .nil) .nil) (.cons (.asg (.nm 3) (.pop 1)) (.cons (.ife (.isi (.var 3) .tuple) (.cons (.ext 1 (.bi .list (.cons (.var 3) .nil))) .nil) (.cons (.ife (.and (.isN true (.var 3)) (.and (.not (.isi (.var 3) .str)) (.not (.isi (.var 3) .int)))) (.cons (.ret (.cst (.bl false))) .nil) .nil) .nil)) .nil))) xs
      [.val v, .own left, s2, s3] = some (.rt (.val (.bl true)) e) ∧ outsOf [false] e = some []
  | 0, xs, left, s2, s3, hl, hx, h2, h3, hf => by
    have hle : left = [] := List.length_eq_zero_iff.mp hl
    subst hle
    cases xs with
    | nil => simp at hx
    | cons x xs => exact ⟨[.val v, .own [], .val x, s3], by simp_arith [f_cons, h2], rfl⟩
  | k + 1, xs, left, s2, s3, hl, hx, h2, h3, hf => by
    cases xs with
    | nil => simp at hx
    | cons x xs =>
      rcases List.eq_nil_or_concat left with e | ⟨l, d, e⟩
      · subst e; simp at hl
      · rw [List.concat_eq_append] at e
        subst e
        have hlen : l.length = k := by simpa using hl
        obtain ⟨e, e1, e2⟩ := plain_loop (v := v) k xs l (.val x) (.val d) hlen (by simpa using hx) rfl rfl fun y hy => hf y (List.mem_append_left _ hy)
        refine ⟨e, ?_, e2⟩
        have hd := hf d (by simp)
        rw [← e1]
        have hne : (((l ++ [d]).length : Int) == 0) = false := by
          have : ((l ++ [d]).length : Int) ≠ 0 := by
            rw [List.length_append, List.length_singleton]; omega
          simpa using this
        cases d <;> first | cases hd; done | simp_arith [f_cons, h2, h3, hne, List.getLast?_append, List.getLast?_singleton, Option.or_some, Option.some_or, List.dropLast_concat]
def plainB : D → Bool
  | .ls _ => false
  | _ => true
theorem rng6 : ∃ (x : D) (xs : List D), rangeD 0 (1000000 : Int).toNat = x :: xs ∧ 900000 < xs.length := by
  have hl : (rangeD 0 (1000000 : Int).toNat).length = 1000000 := by unfold rangeD; rw [List.length_map, List.length_range]; rfl
  cases h : rangeD 0 (1000000 : Int).toNat with
  | nil => rw [h] at hl; simp at hl
  | cons x xs => rw [h] at hl; exact ⟨x, xs, rfl, by rw [List.length_cons] at hl; omega⟩
theorem s_law_plain {v : D} (h : vok v = true) : C L (n+1) 19 [.val v] = some (.val (.bl (plainB v)), []) := by
  obtain ⟨x, xs, hr, hl⟩ := rng6
  have hs : decide (Small (1000000 : Int)) = true := by decide
  have go : flat v = true → C L (n+1) 19 [.val v] = some (.val (.bl true), []) := fun hf => by
    rw [call_to (d := b84d19) rfl]
    simp only [b84d19, b84_law_plain]
    obtain ⟨e, e1, e2⟩ := plain_loop (L := L) (n := n) (v := v) 1 (x :: xs) [v] .nil .nil rfl (by rw [List.length_cons]; omega) rfl rfl fun y hy => by
      rw [List.mem_singleton] at hy; rw [hy]; exact hf
    simp_arith [pow6, hs, hr, e1, e2]
  cases v with
  | tup ds =>
    rw [call_to (d := b84d19) rfl]
    simp only [b84d19, b84_law_plain]
    unfold vok at h
    rw [Bool.and_eq_true, decide_eq_true_eq] at h
    obtain ⟨e, e1, e2⟩ := plain_loop (L := L) (n := n) (v := .tup ds) ds.length xs ds (.val x) (.val (.tup ds)) rfl (by omega) rfl rfl (List.all_eq_true.mp h.2)
    have hl2 : decide (ds.length ≤ 16777216) = true := decide_eq_true (by omega)
    simp_arith [pow6, hs, hr, f_cons, List.getLast?_singleton, List.dropLast_singleton, hl2, e1, e2, plainB]
  | ls ds =>
    rw [call_to (d := b84d19) rfl]
    simp only [b84d19, b84_law_plain]
    simp_arith [pow6, hs, hr, f_cons, List.getLast?_singleton, List.dropLast_singleton, plainB]
  | non => exact go h
  | bl b => exact go h
  | int i => exact go h
  | str s => exact go h
  | fn j => cases h
theorem s_law_equal {a b : Bool} : C L (n+2) 20 [.val (.bl a), .val (.bl b)] = some (.val (.bl (a == b)), []) := by
  rw [call_to (d := b84d20) rfl]
  simp only [b84d20, b84_law_equal]
  have hp := s_law_plain (L := L) (n := n) (v := .bl a) rfl
  simp only [plainB] at hp
  have hr : ∀ x : Bool, evalBI .repr [.bl x] = some (.val (.str (if x then "True" else "False"))) := fun x => rfl
  have he : evalCmp .eq (.str (if a then "True" else "False")) (.str (if b then "True" else "False")) = some (a == b) := by
    cases a <;> cases b <;> decide +kernel
  simp_arith [hp, hr, he]
theorem s_law_whole {d : D} (h : noFn d = true) : C L (n+1) 21 [.val d] = some (.val (.bl (isInt d)), []) := by
  rw [call_to (d := b84d21) rfl]
  simp only [b84d21, b84_law_whole]
  cases d <;> first | cases h; done | (simp_arith []; try rfl)
theorem s_told_paper {one other r : D} (h : C L (n+1) 14 [.val one, .val other] = some (.val r, [])) : C L (n+2) 28 [.val (.str "paper"), .val one, .val other, .val .non] = some (.val r, []) := by
  rw [call_to (d := b84d28) rfl]
  simp only [b84d28, b84_law_told]
  have he : evalCmp .eq (.str "paper") (.str "paper") = some true := by decide +kernel
  simp_arith [he, h]
theorem s_told_judge {one other v r : D} (h : C L (n+1) 15 [.val one, .val other, .val v] = some (.val r, [])) : C L (n+2) 28 [.val (.str "judge"), .val one, .val other, .val v] = some (.val r, []) := by
  rw [call_to (d := b84d28) rfl]
  simp only [b84d28, b84_law_told]
  have he : evalCmp .eq (.str "judge") (.str "paper") = some false := by decide +kernel
  simp_arith [he, h]
end
end K84

-- K84P6
set_option maxHeartbeats 4000000
namespace K84
open PySem Pi
theorem flat_py {d : D} (h : flat d = true) : d.toPy.canLay0 = true ∧ d.toPy.depth = 0 := by
  cases d with
  | non => exact ⟨rfl, rfl⟩
  | bl _ => exact ⟨rfl, rfl⟩
  | int _ => exact ⟨rfl, rfl⟩
  | str s =>
    refine ⟨?_, rfl⟩
    have hs : s ∈ txts := of_decide_eq_true h
    have all : ∀ t ∈ txts, PyData.canLay0 (.str t) = true := by decide +kernel
    exact all s hs
  | tup _ => cases h
  | ls _ => cases h
  | fn _ => cases h
theorem flats_py : ∀ {ds : List D}, ds.all flat = true → PyData.canLayAll0 (D.toPys ds) = true ∧ PyData.depthAll (D.toPys ds) = 0
  | [], _ => ⟨rfl, rfl⟩
  | d :: ds, h => by
    rw [List.all_cons, Bool.and_eq_true] at h
    obtain ⟨h1, h2⟩ := flat_py h.1
    obtain ⟨h3, h4⟩ := flats_py h.2
    refine ⟨?_, ?_⟩
    · show (PyData.canLay0 d.toPy && PyData.canLayAll0 (D.toPys ds)) = true
      rw [h1, h3]; rfl
    · show max (PyData.depth d.toPy) (PyData.depthAll (D.toPys ds)) = 0
      rw [h2, h4]; rfl
theorem shp_flat {d : D} (h : flat d = true) : d.shp = true := by
  unfold D.shp SeqAt.shaped
  obtain ⟨h1, h2⟩ := flat_py h
  rw [h1, h2]; rfl
theorem shp_ls {ds : List D} (h : ds.all flat = true) : (D.ls ds).shp = true := by
  unfold D.shp SeqAt.shaped
  obtain ⟨h1, h2⟩ := flats_py h
  rw [show (D.ls ds).toPy = .list (D.toPys ds) by rw [D.toPy]]
  rw [show PyData.canLay0 (.list (D.toPys ds)) = PyData.canLayAll0 (D.toPys ds) by rw [PyData.canLay0], show PyData.depth (.list (D.toPys ds)) = PyData.depthAll (D.toPys ds) + 1 by rw [PyData.depth], h1, h2]
  rfl
theorem shp_tup {ds : List D} (h : ds.all flat = true) : (D.tup ds).shp = true := by
  unfold D.shp SeqAt.shaped
  obtain ⟨h1, h2⟩ := flats_py h
  rw [show (D.tup ds).toPy = .tuple (D.toPys ds) by rw [D.toPy]]
  rw [show PyData.canLay0 (.tuple (D.toPys ds)) = PyData.canLayAll0 (D.toPys ds) by rw [PyData.canLay0], show PyData.depth (.tuple (D.toPys ds)) = PyData.depthAll (D.toPys ds) + 1 by rw [PyData.depth], h1, h2]
  rfl
theorem ne_nil {ds : List D} (h : ds.all flat = true) : evalCmp .ne (.ls ds) (.ls []) = some (!ds.isEmpty) := by
  show (if (D.ls ds).shp = true ∧ (D.ls []).shp = true then some (!D.eqv (.ls ds) (.ls [])) else none) = _
  rw [if_pos ⟨shp_ls h, shp_ls (ds := []) rfl⟩]
  cases ds <;> rfl
theorem eq_nil {ds : List D} (h : ds.all flat = true) : evalCmp .eq (.ls ds) (.ls []) = some ds.isEmpty := by
  show (if (D.ls ds).shp = true ∧ (D.ls []).shp = true then some (D.eqv (.ls ds) (.ls [])) else none) = _
  rw [if_pos ⟨shp_ls h, shp_ls (ds := []) rfl⟩]
  cases ds <;> rfl
theorem hit_of {p q c d e : Int} (hp : 0 < p) (hq : 0 < q) (h : (p * e + c) / q = d) : hit p q c d = true := by
  have h1 := Int.emod_add_mul_ediv (p * e + c) q
  have h2 := Int.emod_nonneg (p * e + c) (show q ≠ 0 by omega)
  have h3 := Int.emod_lt_of_pos (p * e + c) hq
  rw [h] at h1
  have e1 : (c - q * d) % p = (c - q * d + p * e) % p := by rw [Int.add_mul_emod_self_left]
  have h4 : 0 ≤ c - q * d + p * e := by omega
  have h5 : (c - q * d + p * e) % p ≤ c - q * d + p * e := by
    have k1 := Int.emod_add_mul_ediv (c - q * d + p * e) p
    have k2 := Int.mul_nonneg (show 0 ≤ p by omega) (Int.ediv_nonneg h4 (show 0 ≤ p by omega))
    omega
  unfold hit
  exact decide_eq_true (by omega)
theorem ev_of {p q c d : Int} (hp : 0 < p) (hq : 0 < q) (h : hit p q c d = true) : (p * (-((c - q * d) / p)) + c) / q = d := by
  unfold hit at h
  have h0 := of_decide_eq_true h
  have h1 := Int.emod_add_mul_ediv (c - q * d) p
  have h2 := Int.emod_nonneg (c - q * d) (show p ≠ 0 by omega)
  have e : p * (-((c - q * d) / p)) + c = (c - q * d) % p + d * q := by
    rw [Int.mul_neg]
    have : d * q = q * d := Int.mul_comm _ _
    omega
  rw [e, Int.add_mul_ediv_right _ _ (by omega), Int.ediv_eq_zero_of_lt h2 h0]
  omega
theorem rangeD_mem {lo : Int} {m : Nat} {x : D} : x ∈ rangeD lo m ↔ ∃ e : Int, x = .int e ∧ lo ≤ e ∧ e < lo + m := by
  unfold rangeD
  rw [List.mem_map]
  constructor
  · rintro ⟨k, hk, rfl⟩
    have := List.mem_range.mp hk
    exact ⟨_, rfl, by omega, by omega⟩
  · rintro ⟨e, rfl, h1, h2⟩
    exact ⟨(e - lo).toNat, List.mem_range.mpr (by omega), by congr 1; omega⟩
theorem fm_pos {α : Type} {g : α → Option α} {xs : List α} : 0 < (xs.filterMap g).length ↔ ∃ x ∈ xs, (g x).isSome = true := by
  rw [List.length_pos_iff_exists_mem]
  constructor
  · rintro ⟨y, hy⟩
    obtain ⟨x, hx, e⟩ := List.mem_filterMap.mp hy
    exact ⟨x, hx, by rw [e]; rfl⟩
  · rintro ⟨x, hx, e⟩
    obtain ⟨y, hy⟩ := Option.isSome_iff_exists.mp e
    exact ⟨y, List.mem_filterMap.mpr ⟨x, hx, hy⟩⟩
section
variable {L n : Nat}
theorem s_events_on {p q c d : Int} (G : GW p q c) (h0 : -1000000 ≤ d) (h1 : d ≤ 1000000) : ∃ k : Nat, C L (n+2) 27 [.val (W p q c), .val (.int d)] = some (.val (.int k), []) ∧ decide ((0 : Int) < k) = hit p q c d := by
  have g1 := G.p1; have g2 := G.p2; have g3 := G.q1; have g4 := G.q2; have g5 := G.c1; have g6 := G.c2
  have qd1 : -14000000 ≤ q * d := by
    have : -(14 * 1000000) ≤ q * d := by
      by_cases hd : 0 ≤ d
      · have := Int.mul_nonneg (show 0 ≤ q by omega) hd; omega
      · have := Int.mul_le_mul (show q ≤ 14 by omega) (show -d ≤ 1000000 by omega) (by omega) (by omega)
        rw [Int.mul_neg] at this; omega
    omega
  have qd2 : q * d ≤ 14000000 := by
    by_cases hd : 0 ≤ d
    · have := Int.mul_le_mul (show q ≤ 14 by omega) h1 hd (by omega); omega
    · have := Int.mul_nonneg (show 0 ≤ q by omega) (show 0 ≤ -d by omega)
      rw [Int.mul_neg] at this; omega
  have e1 := Int.emod_add_mul_ediv (q * d - c) p
  have e2 := Int.emod_nonneg (q * d - c) (show p ≠ 0 by omega)
  have e3 := Int.emod_lt_of_pos (q * d - c) (show 0 < p by omega)
  have n1 : -20000000 ≤ (q * d - c) / p := by
    rw [Int.le_ediv_iff_mul_le (by omega)]; omega
  have n2 : (q * d - c) / p ≤ 20000000 := by
    have : (q * d - c) / p < 20000001 := by
      rw [Int.ediv_lt_iff_lt_mul (by omega)]; omega
    omega
  have n3 : 0 ≤ q / p := Int.ediv_nonneg (by omega) (by omega)
  have n4 : q / p ≤ q := Int.ediv_le_self _ (by omega)
  generalize hnear : (q * d - c) / p = near at *
  generalize hqp : q / p = k0 at *
  let g : D → Option D := fun x => match x with
    | .int e => if ((p * e + c) / q == d) = true then some (.int e) else none
    | _ => none
  have hdo : doC (C L (n+1)) (.var 6) (.nm 6) (.cmp .eq (.call 24 (.cons (.var 0) (.cons (.var 6) .nil)) []) (.var 1)) [6] (rangeD (near - 1) (near + k0 + 4 - (near - 1)).toNat) [.val (W p q c), .val (.int d), .val (.int p), .val (.int q), .val (.int c), .val (.int near), .nil] [] =
      some ([] ++ (rangeD (near - 1) (near + k0 + 4 - (near - 1)).toNat).filterMap g, [.val (W p q c), .val (.int d), .val (.int p), .val (.int q), .val (.int c), .val (.int near), .nil]) := by
    apply doC_pure
    intro x hx
    obtain ⟨e, rfl, _⟩ := rangeD_mem.mp hx
    have hl := s_law_day (L := L) (n := n) (p := p) (q := q) (c := c) (e := e) (mulS (by omega)) (divOk_of (by omega) (by omega))
    unfold stepC
    by_cases he : ((p * e + c) / q == d) = true
    · have hg : g (.int e) = some (.int e) := by show (if _ then _ else _) = _; rw [if_pos he]
      rw [hg]
      simp_arith [hl, he]
    · have he' : ((p * e + c) / q == d) = false := by simpa using he
      have hg : g (.int e) = none := by show (if _ then _ else _) = _; rw [if_neg he]
      rw [hg]
      simp_arith [hl, he']
  have hs : decide (Small (near - 1) ∧ Small (near + k0 + 4) ∧ near + k0 + 4 - (near - 1) ≤ 16777216) = true := decide_eq_true ⟨⟨by omega, by omega⟩, ⟨by omega, by omega⟩, by omega⟩
  refine ⟨((rangeD (near - 1) (near + k0 + 4 - (near - 1)).toNat).filterMap g).length, ?_, ?_⟩
  · rw [call_to (d := b84d27) rfl]
    simp only [b84d27, b84_law_events_on]
    have hm1 : Pi.MulOk q d := mulS (by omega)
    have hdv : DivOk p := divOk_of (by omega) (by omega)
    simp_arith [decide_eq_true hm1, fdiv_int hdv, hnear, hqp, hs, hdo]
  · have key : (0 < ((rangeD (near - 1) (near + k0 + 4 - (near - 1)).toNat).filterMap g).length) ↔ hit p q c d = true := by
      rw [fm_pos]
      constructor
      · rintro ⟨x, hx, hs⟩
        obtain ⟨e, rfl, _⟩ := rangeD_mem.mp hx
        by_cases he : ((p * e + c) / q == d) = true
        · exact hit_of (by omega) (by omega) (by simpa using he)
        · have hg : g (.int e) = none := by show (if _ then _ else _) = _; rw [if_neg he]
          rw [hg] at hs; cases hs
      · intro hh
        have ev := ev_of (p := p) (q := q) (c := c) (d := d) (by omega) (by omega) hh
        have h2 := Int.emod_add_mul_ediv (c - q * d) p
        have h3 := Int.emod_nonneg (c - q * d) (show p ≠ 0 by omega)
        have h4 := Int.emod_lt_of_pos (c - q * d) (show 0 < p by omega)
        generalize hE : (c - q * d) / p = E at *
        have b1 : near - 1 ≤ -E := by
          have : p * near ≤ p * (-E) := by rw [Int.mul_neg]; omega
          have := Int.le_of_mul_le_mul_left this (by omega)
          omega
        have b2 : -E < near + 2 := by
          have : p * (-E) < p * (near + 2) := by rw [Int.mul_neg, Int.mul_add]; omega
          exact Int.lt_of_mul_lt_mul_left this (by omega)
        refine ⟨.int (-E), rangeD_mem.mpr ⟨_, rfl, b1, by omega⟩, ?_⟩
        have hg : g (.int (-E)) = some (.int (-E)) := by
          show (if _ then _ else _) = _
          rw [if_pos (by simpa using ev)]
        rw [hg]; rfl
    cases hh : hit p q c d with
    | true => exact decide_eq_true (by have := key.mpr hh; omega)
    | false =>
      apply decide_eq_false
      intro hc
      have := key.mp (by omega)
      rw [hh] at this; cases this
end
end K84

-- K84P7
set_option maxHeartbeats 4000000
namespace K84
open PySem Pi
theorem hasR_of {p q c m r d : Int} (hp : 0 < p) (hm : 0 < m) (hmp : m ∣ p) (hd : m ∣ d - r) (h : hit p q c d = true) : hasR q c m r = true := by
  unfold hit at h
  have h0 := of_decide_eq_true h
  have h1 := Int.emod_nonneg (c - q * d) (show p ≠ 0 by omega)
  unfold hasR
  by_cases hmq : m ≤ q
  · rw [decide_eq_true hmq]; rfl
  · have e1 : (q * r + q - 1 - c) % m = q - 1 - ((c - q * d) % p) % m := by
      have k1 : ((c - q * d) % p) % m ≤ (c - q * d) % p := by
        have k1 := Int.emod_add_mul_ediv ((c - q * d) % p) m
        have k2 := Int.mul_nonneg (show 0 ≤ m by omega) (Int.ediv_nonneg h1 (show 0 ≤ m by omega))
        omega
      have k2 := Int.emod_nonneg ((c - q * d) % p) (show m ≠ 0 by omega)
      apply emod_of (by omega) (by omega)
      rw [Int.emod_emod_of_dvd _ hmp]
      have k3 : m ∣ (c - q * d) - (c - q * d) % m := Int.dvd_self_sub_emod
      have e : q * r + q - 1 - c - (q - 1 - (c - q * d) % m) = -(q * (d - r)) - ((c - q * d) - (c - q * d) % m) := by grind
      rw [e]
      exact Int.dvd_sub (Int.dvd_neg.mpr (Int.dvd_mul_of_dvd_right hd)) k3
    have k2 := Int.emod_nonneg ((c - q * d) % p) (show m ≠ 0 by omega)
    rw [decide_eq_true (show (q * r + q - 1 - c) % m < q by omega), Bool.or_true]
section
variable {L n : Nat}
theorem day_of {p q c m r : Int} (G : GW p q c) (hm : 0 < m) (hmp : m ∣ p) (h0 : 0 ≤ r) (h1 : r < m) (hr : hasR q c m r = true) : ∃ d : Int, 0 ≤ d ∧ d < p ∧ m ∣ d - r ∧ hit p q c d = true := by
  have g1 := G.p1; have g2 := G.p2; have g3 := G.q1; have g4 := G.q2
  have hle : m ≤ p := Int.le_of_dvd (by omega) hmp
  by_cases hqp : p ≤ q
  · refine ⟨r, h0, by omega, by rw [Int.sub_self]; exact Int.dvd_zero m, ?_⟩
    unfold hit
    have := Int.emod_lt_of_pos (c - q * r) (show 0 < p by omega)
    exact decide_eq_true (by omega)
  · obtain ⟨i, _, i2, i3, i4⟩ := s_inverse (L := 100) (n := 0) (p := q) (q := p) g1 (by omega) (by rw [Int.gcd_comm]; exact G.g) (by omega)
    obtain ⟨e1, e2⟩ := day_ok (by omega) g3 (by omega) G.g hm hmp hr i4
    exact ⟨_, Int.emod_nonneg _ (by omega), Int.emod_lt_of_pos _ (by omega), e2, e1⟩
def gd (p q c : Int) : D → Option D := fun x => match x with
  | .int d => if hit p q c d = true then some (.int d) else none
  | _ => none
def gr (q c m : Int) : D → Option D := fun x => match x with
  | .int r => if hasR q c m r = true then some (.int r) else none
  | _ => none
theorem gd_flat {p q c : Int} {xs : List D} (h : ∀ x ∈ xs, flat x = true) : (xs.filterMap (gd p q c)).all flat = true := by
  rw [List.all_eq_true]
  intro y hy
  obtain ⟨x, hx, e⟩ := List.mem_filterMap.mp hy
  cases x <;> first | (simp [gd] at e; done) | skip
  rename_i i
  have hf := h _ hx
  unfold gd at e
  simp only at e
  split at e
  · cases e; exact hf
  · cases e
theorem days_in {p q c m r : Int} (G : GW p q c) (s2 : Slot) : ∀ (xs : List D), (∀ x ∈ xs, ∃ d : Int, x = .int d ∧ -1000000 ≤ d ∧ d ≤ 1000000) →
    doC (C L (n+2)) (.var 3) (.nm 3) (.cmp .gt (.call 27 (.cons (.var 0) (.cons (.var 3) .nil)) []) (.cst (.int (0)))) [3] xs [.val (W p q c), .val (.int m), .val (.int r), .nil] [] = some ([] ++ xs.filterMap (gd p q c), [.val (W p q c), .val (.int m), .val (.int r), .nil]) := by
  intro xs hx
  apply doC_pure
  intro x hxx
  obtain ⟨d, rfl, h1, h2⟩ := hx x hxx
  obtain ⟨k, k1, k2⟩ := s_events_on (L := L) (n := n) G h1 h2
  unfold stepC
  cases hh : hit p q c d with
  | true =>
    rw [hh] at k2
    have hg : gd p q c (.int d) = some (.int d) := by unfold gd; simp [hh]
    rw [hg]
    simp_arith [k1, k2]
  | false =>
    rw [hh] at k2
    have hg : gd p q c (.int d) = none := by unfold gd; simp [hh]
    rw [hg]
    simp_arith [k1, k2]
theorem rests_ints (m : Int) : (restsTo m).map D.int = rangeD 0 m.toNat := (range_ints _).symm
theorem s_law_rests {p q c m : Int} (G : GW p q c) (hm : 0 < m) (hmp : m ∣ p) : C L (n+3) 29 [.val (W p q c), .val (.int m)] = some (.own (((restsTo m).filter (hasR q c m)).map D.int), []) := by
  have g1 := G.p1; have g2 := G.p2
  have hle : m ≤ p := Int.le_of_dvd (by omega) hmp
  have hdo : doC (C L (n+2)) (.var 2) (.nm 2) (.cmp .ne (.lc (.var 3) (.nm 3) (.rg3 (.var 2) (.bin .add (.ixv 0 (.cst (.int (0)))) (.var 2)) (.var 1)) (.cmp .gt (.call 27 (.cons (.var 0) (.cons (.var 3) .nil)) []) (.cst (.int (0)))) [3]) (.lst .nil)) [2] (rangeD 0 m.toNat) [.val (W p q c), .val (.int m), .nil, .nil] [] =
      some ([] ++ (rangeD 0 m.toNat).filterMap (gr q c m), [.val (W p q c), .val (.int m), .nil, .nil]) := by
    apply doC_pure
    intro x hx
    obtain ⟨r, rfl, r0, r1⟩ := rangeD_mem.mp hx
    have r1' : r < m := by omega
    have hstep : rangeStep r (p + r) m = some ((List.range ((p + r - r + m - 1) / m).toNat).map fun (k : Nat) => D.int (r + k * m)) := by
      unfold rangeStep
      rw [if_pos]
      refine ⟨⟨by omega, by omega⟩, ⟨by omega, by omega⟩, ?_, hm, by omega⟩
      rw [sizeLine_v]; omega
    have hcnt : ((p + r - r + m - 1) / m).toNat ≤ 100 := by
      have : (p + r - r + m - 1) / m ≤ p + r - r + m - 1 := Int.ediv_le_self _ (by omega)
      omega
    have hmem : ∀ x ∈ ((List.range ((p + r - r + m - 1) / m).toNat).map fun (k : Nat) => D.int (r + k * m)), ∃ (k : Nat), k < ((p + r - r + m - 1) / m).toNat ∧ x = .int (r + k * m) := fun x hx => by
      obtain ⟨k, hk, e⟩ := List.mem_map.mp hx
      exact ⟨k, List.mem_range.mp hk, e.symm⟩
    have hb : ∀ k : Nat, k < ((p + r - r + m - 1) / m).toNat → 0 ≤ (k : Int) * m ∧ (k : Int) * m ≤ 100 * 14 := fun k hk => ⟨Int.mul_nonneg (by omega) (by omega), Int.mul_le_mul (by omega) (by omega) (by omega) (by omega)⟩
    have hin := days_in (L := L) (n := n) (m := m) (r := r) G .nil ((List.range ((p + r - r + m - 1) / m).toNat).map fun (k : Nat) => D.int (r + k * m)) fun x hx => by
      obtain ⟨k, hk, rfl⟩ := hmem x hx
      have := hb k hk
      exact ⟨_, rfl, by omega, by omega⟩
    have hfl := gd_flat (p := p) (q := q) (c := c) (xs := ((List.range ((p + r - r + m - 1) / m).toNat).map fun (k : Nat) => D.int (r + k * m))) fun x hx => by
      obtain ⟨k, hk, rfl⟩ := hmem x hx
      have := hb k hk
      exact decide_eq_true (by omega)
    have key : (!(((List.range ((p + r - r + m - 1) / m).toNat).map fun (k : Nat) => D.int (r + k * m)).filterMap (gd p q c)).isEmpty) = hasR q c m r := by
      have k0 : (!(((List.range ((p + r - r + m - 1) / m).toNat).map fun (k : Nat) => D.int (r + k * m)).filterMap (gd p q c)).isEmpty) = true ↔ hasR q c m r = true := by
        rw [Bool.not_eq_true', List.isEmpty_eq_false_iff, ← List.length_pos_iff, fm_pos]
        constructor
        · rintro ⟨x, hx, hs⟩
          obtain ⟨k, hk, rfl⟩ := hmem x hx
          by_cases hh : hit p q c (r + k * m) = true
          · exact hasR_of (by omega) hm hmp (d := r + k * m) (by rw [show r + (k : Int) * m - r = k * m by omega]; exact Int.dvd_mul_left _ _) hh
          · have : gd p q c (.int (r + k * m)) = none := by unfold gd; simp [hh]
            rw [this] at hs; cases hs
        · intro hr
          obtain ⟨d, d0, d1, d2, d3⟩ := day_of G hm hmp r0 r1' hr
          obtain ⟨k, hk⟩ := d2
          have hk0 : 0 ≤ k := by
            have : m * (-1) < m * k := by rw [← hk]; omega
            have := Int.lt_of_mul_lt_mul_left this (by omega)
            omega
          have hk1 : k < (p + r - r + m - 1) / m := by
            have : k + 1 ≤ (p + r - r + m - 1) / m := by
              rw [Int.le_ediv_iff_mul_le hm, Int.add_mul, Int.mul_comm k m, ← hk]
              obtain ⟨z, hz⟩ := hmp
              have : m * k < m * z := by rw [← hk, ← hz]; omega
              have := Int.lt_of_mul_lt_mul_left this (by omega)
              have := Int.mul_le_mul_of_nonneg_left (show k + 1 ≤ z by omega) (show 0 ≤ m by omega)
              rw [Int.mul_add] at this
              omega
            omega
          have ed : d = r + ((k.toNat : Nat) : Int) * m := by
            have : ((k.toNat : Nat) : Int) = k := by omega
            rw [this, Int.mul_comm]; omega
          refine ⟨.int d, List.mem_map.mpr ⟨k.toNat, List.mem_range.mpr (by omega), by rw [ed]⟩, ?_⟩
          have : gd p q c (.int d) = some (.int d) := by unfold gd; simp [d3]
          rw [this]; rfl
      cases hh : hasR q c m r with
      | true => exact k0.mpr hh
      | false =>
        cases hx : (!(((List.range ((p + r - r + m - 1) / m).toNat).map fun (k : Nat) => D.int (r + k * m)).filterMap (gd p q c)).isEmpty) with
        | false => rfl
        | true => have := k0.mp hx; rw [hh] at this; cases this
    have hne := ne_nil hfl
    rw [key] at hne
    unfold stepC
    cases hh : hasR q c m r with
    | true =>
      rw [hh] at hne
      have hg : gr q c m (.int r) = some (.int r) := by unfold gr; simp [hh]
      rw [hg]
      simp_arith [hstep, hin, hne]
    | false =>
      rw [hh] at hne
      have hg : gr q c m (.int r) = none := by unfold gr; simp [hh]
      rw [hg]
      simp_arith [hstep, hin, hne]
  have hfm : (rangeD 0 m.toNat).filterMap (gr q c m) = ((restsTo m).filter (hasR q c m)).map D.int := by
    rw [← rests_ints]
    generalize restsTo m = l
    induction l with
    | nil => rfl
    | cons r l ih =>
      rw [List.map_cons, List.filterMap_cons, List.filter_cons, ih]
      cases hh : hasR q c m r <;> simp [gr, hh]
  have hs : decide (Small m ∧ m ≤ 16777216) = true := decide_eq_true ⟨⟨by omega, by omega⟩, by omega⟩
  rw [call_to (d := b84d29) rfl]
  simp only [b84d29, b84_law_rests]
  simp_arith [hs, hdo, hfm]
end
end K84

-- K84P8
set_option maxHeartbeats 8000000
namespace K84
open PySem Pi
def judge (p q c p' q' c' : Int) : D → Bool
  | .tup [.str s, .int m] => (s == "never") && (decide (1 ≤ m) && ((p % m == 0) && ((p' % m == 0) && (firstR (comR q c q' c' m) (restsTo m)).isNone)))
  | .tup [.str s, .int d, .int e, .int f] => (s == "both") && (((p * e + c) / q == d) && ((p' * f + c') / q' == d))
  | _ => false
theorem str_eq {a b : Str} (ha : flat (.str a) = true) (hb : flat (.str b) = true) : evalCmp .eq (.str a) (.str b) = some (a == b) := by
  show (if (D.str a).shp = true ∧ (D.str b).shp = true then some (D.eqv (.str a) (.str b)) else none) = _
  rw [if_pos ⟨shp_flat ha, shp_flat hb⟩]
  congr 1
theorem str_ne {a b : Str} (ha : flat (.str a) = true) (hb : flat (.str b) = true) : evalCmp .ne (.str a) (.str b) = some (!(a == b)) := by
  show (if (D.str a).shp = true ∧ (D.str b).shp = true then some (!D.eqv (.str a) (.str b)) else none) = _
  rw [if_pos ⟨shp_flat ha, shp_flat hb⟩]
  congr 1
theorem fl_never : flat (.str "never") = true := by decide +kernel
theorem fl_both : flat (.str "both") = true := by decide +kernel
theorem cut_tail (a : D) (rest : List D) : cutD (a :: rest) (some 1) none = rest := by
  unfold cutD
  have h1 : HT.sIx (a :: rest).length 0 (some 1) = 1 := by
    rw [show (1 : Int) = ((1 : Nat) : Int) from rfl, HT.sIx_nat]
    simp
  have h2 : HT.sIx (a :: rest).length (a :: rest).length none = (a :: rest).length := rfl
  rw [h1, h2]
  simp
theorem all_bl {rest : List D} : evalBI .all [.ls (rest.filterMap fun x => some (D.bl (isInt x)))] = some (.val (.bl (rest.all isInt))) := by
  have e : ∀ rest : List D, allBl (rest.filterMap fun x => some (D.bl (isInt x))) = some (rest.map isInt) := fun rest => by
    induction rest with
    | nil => rfl
    | cons x xs ih =>
      rw [List.filterMap_cons]
      simp only
      show (allBl (xs.filterMap fun x => some (D.bl (isInt x)))).map (isInt x :: ·) = _
      rw [ih]
      rfl
  show (allBl (rest.filterMap fun x => some (D.bl (isInt x)))).map (fun bs => Slot.val (.bl (bs.all id))) = _
  rw [e]
  simp only [Option.map_some]
  congr 3
  rw [List.all_map]
  rfl
section
variable {L n : Nat}
theorem acc_all {s0 s1 s2 : Slot} {rest : List D} (h : rest.all flat = true) : doC (C L (n+1)) (.call 0 (.cons (.var 4) .nil) []) (.nm 4) (.cst (.bl true)) [4] rest [s0, s1, s2, .nil, .nil] [] = some ([] ++ rest.filterMap (fun x => some (D.bl (isInt x))), [s0, s1, s2, .nil, .nil]) := by
  apply doC_pure
  intro x hx
  have hi := s_is_integer (L := L) (n := n) (flat_noFn (List.all_eq_true.mp h x hx))
  unfold stepC
  simp_arith [hi]
theorem s_accepts {p q c p' q' c' : Int} {v : D} (G : GW p q c) (G' : GW p' q' c') (hv : vok v = true) (hL : 20 < L) : C L (n+6) 15 [.val (W p q c), .val (W p' q' c'), .val v] = some (.val (.bl (judge p q c p' q' c' v)), []) := by
  have g1 := G.p1; have g2 := G.p2; have g3 := G.q1; have g4 := G.q2
  have k1 := G'.p1; have k2 := G'.p2; have k3 := G'.q1; have k4 := G'.q2
  have hk := s_check_pair (L := L) (n := n) G G' (by omega)
  rw [call_to (d := b84d15) rfl]
  simp only [b84d15, b84accepts_both]
  by_cases ht : ∃ ds, v = .tup ds
  · obtain ⟨ds, rfl⟩ := ht
    unfold vok at hv
    rw [Bool.and_eq_true, decide_eq_true_eq] at hv
    obtain ⟨hlen, hfl⟩ := hv
    have hti := s_is_tuple_of (L := L) (n := n + 4) (ds := ds) (a := 2) (b := 4)
    by_cases hin : decide ((2 : Int) ≤ ds.length) && decide ((ds.length : Int) ≤ 4)
    · have hin' : (decide ((2 : Int) ≤ ds.length) && decide ((ds.length : Int) ≤ 4)) = true := hin
      rw [hin'] at hti
      rw [Bool.and_eq_true, decide_eq_true_eq, decide_eq_true_eq] at hin'
      match ds, hlen, hfl, hti, hin' with
      | a :: rest, hlen, hfl, hti, hin' =>
        rw [List.all_cons, Bool.and_eq_true] at hfl
        obtain ⟨fa, fr⟩ := hfl
        by_cases hs : ∃ s, a = .str s
        · obtain ⟨s, rfl⟩ := hs
          have hall := acc_all (L := L) (n := n + 4) (s0 := .val (W p q c)) (s1 := .val (W p' q' c')) (s2 := .val (.tup (.str s :: rest))) fr
          cases hi : rest.all isInt with
          | false =>
            have hj : judge p q c p' q' c' (.tup (.str s :: rest)) = false := by
              unfold judge
              split
              · rename_i e; cases e; cases hi
              · rename_i e; cases e; cases hi
              · rfl
            rw [hj]
            simp_arith [hk, hti, sl_tup part_int part_non, cut_tail, hall, all_bl, hi]
          | true =>
            match rest, hlen, fr, hti, hin', hall, hi with
            | [], hlen, fr, hti, hin', hall, hi =>
              have := hin'.1
              simp only [List.length_cons, List.length_nil] at this
              omega
            | [b], hlen, fr, hti, hin', hall, hi =>
              cases b <;> first | (cases hi; done) | skip
              rename_i m
              have hj : judge p q c p' q' c' (.tup [.str s, .int m]) = ((s == "never") && (decide (1 ≤ m) && ((p % m == 0) && ((p' % m == 0) && (firstR (comR q c q' c' m) (restsTo m)).isNone)))) := rfl
              rw [hj]
              cases e1 : (s == ("never" : Str)) with
              | false => simp_arith [hk, hti, sl_tup part_int part_non, cut_tail, hall, all_bl, hi, str_ne fa fl_never, e1]
              | true =>
                by_cases e2 : 1 ≤ m
                · have e2' : decide (m < 1) = false := decide_eq_false (by omega)
                  have hm0 : 0 < m := by omega
                  cases e3 : (p % m == 0) with
                  | false => simp_arith [hk, hti, sl_tup part_int part_non, cut_tail, hall, all_bl, hi, str_ne fa fl_never, e1, e2', decide_eq_true e2, mod_int hm0, e3]
                  | true =>
                    cases e4 : (p' % m == 0) with
                    | false => simp_arith [hk, hti, sl_tup part_int part_non, cut_tail, hall, all_bl, hi, str_ne fa fl_never, e1, e2', decide_eq_true e2, mod_int hm0, e3, e4]
                    | true =>
                      have hmp : m ∣ p := Int.dvd_of_emod_eq_zero (by simpa using e3)
                      have hle : m ≤ p := Int.le_of_dvd (by omega) hmp
                      have hc := s_common_rest (L := L) (n := n + 3) G G' hm0 (by omega)
                      cases e5 : firstR (comR q c q' c' m) (restsTo m) with
                      | none =>
                        rw [e5] at hc
                        simp_arith [hk, hti, sl_tup part_int part_non, cut_tail, hall, all_bl, hi, str_ne fa fl_never, e1, e2', decide_eq_true e2, mod_int hm0, e3, e4, hc, Option.isNone_none]
                      | some r =>
                        rw [e5] at hc
                        simp_arith [hk, hti, sl_tup part_int part_non, cut_tail, hall, all_bl, hi, str_ne fa fl_never, e1, e2', decide_eq_true e2, mod_int hm0, e3, e4, hc, Option.isNone_some]
                · have e2' : decide (m < 1) = true := decide_eq_true (by omega)
                  simp_arith [hk, hti, sl_tup part_int part_non, cut_tail, hall, all_bl, hi, str_ne fa fl_never, e1, e2', decide_eq_false e2]
            | [b, d], hlen, fr, hti, hin', hall, hi =>
              have hj : judge p q c p' q' c' (.tup [.str s, b, d]) = false := by
                unfold judge
                split
                · rename_i e; cases e
                · rename_i e; cases e
                · rfl
              rw [hj]
              simp_arith [hk, hti, sl_tup part_int part_non, cut_tail, hall, all_bl, hi]
            | [b, d, e], hlen, fr, hti, hin', hall, hi =>
              cases b <;> first | (cases hi; done) | skip
              cases d <;> first | (cases hi; done) | skip
              cases e <;> first | (cases hi; done) | skip
              rename_i d e f
              have hj : judge p q c p' q' c' (.tup [.str s, .int d, .int e, .int f]) = ((s == "both") && (((p * e + c) / q == d) && ((p' * f + c') / q' == d))) := rfl
              rw [hj]
              have h1 := s_day_among (L := L) (n := n + 4) (p := p) (q := q) (c := c) (e := e) (mulS (by omega)) (divOk_of (by omega) (by omega))
              have h2 := s_day_among (L := L) (n := n + 4) (p := p') (q := q') (c := c') (e := f) (mulS (by omega)) (divOk_of (by omega) (by omega))
              cases e1 : (s == ("both" : Str)) with
              | false => simp_arith [hk, hti, sl_tup part_int part_non, cut_tail, hall, all_bl, hi, str_ne fa fl_both, e1]
              | true =>
                cases e2 : ((p * e + c) / q == d) <;> simp_arith [hk, hti, sl_tup part_int part_non, cut_tail, hall, all_bl, hi, str_ne fa fl_both, e1, h1, h2, e2]
            | _ :: _ :: _ :: _ :: _, hlen, fr, hti, hin', hall, hi =>
              have := hin'.2
              simp only [List.length_cons] at this
              omega
        · have hj : judge p q c p' q' c' (.tup (a :: rest)) = false := by
            unfold judge
            split
            · rename_i e; cases e; exact absurd ⟨_, rfl⟩ hs
            · rename_i e; cases e; exact absurd ⟨_, rfl⟩ hs
            · rfl
          rw [hj]
          cases a <;> first | (cases fa; done) | exact absurd ⟨_, rfl⟩ hs | simp_arith [hk, hti]
    · have hin' : (decide ((2 : Int) ≤ ds.length) && decide ((ds.length : Int) ≤ 4)) = false := by simpa using hin
      rw [hin'] at hti
      have hj : judge p q c p' q' c' (.tup ds) = false := by
        unfold judge
        split
        · rename_i e; cases e; cases hin'
        · rename_i e; cases e; cases hin'
        · rfl
      rw [hj]
      simp_arith [hk, hti]
  · have hti := s_is_tuple_no (L := L) (n := n + 4) (d := v) (a := 2) (b := 4) (vok_noFn hv) fun ds e => ht ⟨ds, e⟩
    have hj : judge p q c p' q' c' v = false := by
      unfold judge
      split
      · exact absurd ⟨_, rfl⟩ ht
      · exact absurd ⟨_, rfl⟩ ht
      · rfl
    rw [hj]
    simp_arith [hk, hti]
theorem nin24 {k : Int} : evalCmp .nin (.int k) (.tup [.int 2, .int 4]) = some (!((2 == k) || (4 == k))) := by
  show (if (D.int k).flat = true ∧ [D.int 2, D.int 4].all D.flat = true then some (!D.isIn (.int k) [.int 2, .int 4]) else none) = _
  rw [if_pos ⟨rfl, rfl⟩]
  congr 2
  show ((2 == k) || ((4 == k) || false)) = _
  rw [Bool.or_false]
theorem one_parts {s0 s1 s2 : Slot} {rest : List D} (h : rest.all flat = true) : doC (C L (n+1)) (.var 5) (.nm 5) (.not (.call 21 (.cons (.var 5) .nil) [])) [5] rest [s0, s1, s2, .nil, .nil, .nil, .nil] [] = some ([] ++ rest.filterMap (fun x => if isInt x = true then none else some x), [s0, s1, s2, .nil, .nil, .nil, .nil]) := by
  apply doC_pure
  intro x hx
  have hi := s_law_whole (L := L) (n := n) (flat_noFn (List.all_eq_true.mp h x hx))
  unfold stepC
  cases e : isInt x <;> (rw [e] at hi; simp_arith [hi])
theorem parts_flat {rest : List D} (h : rest.all flat = true) : (rest.filterMap (fun x => if isInt x = true then none else some x)).all flat = true := by
  rw [List.all_eq_true] at h ⊢
  intro y hy
  obtain ⟨x, hx, e⟩ := List.mem_filterMap.mp hy
  split at e
  · cases e
  · cases e; exact h _ hx
theorem parts_none {rest : List D} : (!(rest.filterMap (fun x => if isInt x = true then none else some x)).isEmpty) = !rest.all isInt := by
  induction rest with
  | nil => rfl
  | cons x xs ih =>
    rw [List.filterMap_cons, List.all_cons]
    cases e : isInt x
    · rfl
    · simp only [if_true, Bool.true_and]
      exact ih
theorem isIn_ints {r : Int} : ∀ {l : List Int}, D.isIn (.int r) (l.map D.int) = decide (r ∈ l)
  | [] => rfl
  | x :: l => by
    show (D.eqv (.int x) (.int r) || D.isIn (.int r) (l.map D.int)) = _
    rw [isIn_ints]
    show ((x == r) || decide (r ∈ l)) = _
    by_cases h : x = r
    · subst h; simp
    · have : (x == r) = false := by simpa using h
      rw [this, Bool.false_or]
      congr 1
      simp [Ne.symm h]
theorem flat_ints {l : List Int} : (l.map D.int).all D.flat = true := by
  rw [List.all_eq_true]
  intro x hx
  obtain ⟨i, _, rfl⟩ := List.mem_map.mp hx
  rfl
theorem inn_ints {r : Int} {l : List Int} : evalCmp .inn (.int r) (.ls (l.map D.int)) = some (decide (r ∈ l)) := by
  show (if (D.int r).flat = true ∧ (l.map D.int).all D.flat = true then some (D.isIn (.int r) (l.map D.int)) else none) = _
  rw [if_pos ⟨rfl, flat_ints⟩, isIn_ints]
def gIn (l2 : List Int) : D → Option D := fun x => match x with
  | .int r => if decide (r ∈ l2) = true then some (.int r) else none
  | _ => none
theorem one_in {s0 s1 s2 s3 s5 : Slot} {l2 : List Int} {acc : List D} : ∀ {l1 : List Int}, doC (C L n) (.var 6) (.nm 6) (.cmp .inn (.var 6) (.var 4)) [6] (l1.map D.int) [s0, s1, s2, s3, .val (.ls (l2.map D.int)), s5, .nil] acc = some (acc ++ (l1.map D.int).filterMap (gIn l2), [s0, s1, s2, s3, .val (.ls (l2.map D.int)), s5, .nil]) := by
  intro l1
  apply doC_pure
  intro x hx
  obtain ⟨r, _, rfl⟩ := List.mem_map.mp hx
  have hi := inn_ints (r := r) (l := l2)
  unfold stepC
  cases e : decide (r ∈ l2) <;> (rw [e] at hi; simp_arith [hi, gIn, e])
theorem one_in0 {s0 s1 s2 s3 s5 : Slot} {l2 : List Int} : ∀ {l1 : List Int}, ∃ s4, doC (C L n) (.var 6) (.nm 6) (.cmp .inn (.var 6) (.var 4)) [6] (l1.map D.int) [s0, s1, s2, s3, .own (l2.map D.int), s5, .nil] [] = some ((l1.map D.int).filterMap (gIn l2), [s0, s1, s2, s3, s4, s5, .nil])
  | [] => ⟨_, rfl⟩
  | r :: l1 => by
    refine ⟨.val (.ls (l2.map D.int)), ?_⟩
    have hi := inn_ints (r := r) (l := l2)
    rw [List.map_cons, d_cons, List.filterMap_cons]
    have hst : stepC (C L n) (.var 6) (.nm 6) (.cmp .inn (.var 6) (.var 4)) [6] (.int r) [s0, s1, s2, s3, .own (l2.map D.int), s5, .nil] = some (gIn l2 (.int r), [s0, s1, s2, s3, .val (.ls (l2.map D.int)), s5, .nil]) := by
      unfold stepC
      cases e : decide (r ∈ l2) <;> (rw [e] at hi; simp_arith [hi, gIn, e])
    rw [hst, bindO_some]
    simp only
    rw [one_in]
    cases gIn l2 (.int r) <;> rfl
theorem common_eq {p q c p' q' c' m : Int} : ((((restsTo m).filter (hasR q c m)).map D.int).filterMap (gIn ((restsTo m).filter (hasR q' c' m)))).isEmpty = (firstR (comR q c q' c' m) (restsTo m)).isNone := by
  cases h : firstR (comR q c q' c' m) (restsTo m) with
  | none =>
    have hn := firstR_none h
    rw [Option.isNone_none, List.isEmpty_iff]
    rw [List.filterMap_eq_nil_iff]
    intro x hx
    obtain ⟨r, hr, rfl⟩ := List.mem_map.mp hx
    obtain ⟨h1, h2⟩ := List.mem_filter.mp hr
    have := hn r h1
    unfold comR at this
    rw [h2, Bool.true_and] at this
    unfold gIn
    simp only
    rw [if_neg]
    intro hd
    have hd := of_decide_eq_true hd
    have := (List.mem_filter.mp hd).2
    simp_all
  | some r =>
    obtain ⟨h1, h2⟩ := firstR_some h
    unfold comR at h2
    rw [Bool.and_eq_true] at h2
    rw [Option.isNone_some, List.isEmpty_eq_false_iff]
    intro hn
    rw [List.filterMap_eq_nil_iff] at hn
    have := hn (.int r) (List.mem_map.mpr ⟨r, List.mem_filter.mpr ⟨h1, h2.1⟩, rfl⟩)
    unfold gIn at this
    simp only at this
    rw [if_pos (decide_eq_true (List.mem_filter.mpr ⟨h1, h2.2⟩))] at this
    cases this
theorem common_flat {q c m : Int} {l2 : List Int} (hm : m ≤ 100) : ((((restsTo m).filter (hasR q c m)).map D.int).filterMap (gIn l2)).all flat = true := by
  rw [List.all_eq_true]
  intro y hy
  obtain ⟨x, hx, e⟩ := List.mem_filterMap.mp hy
  obtain ⟨r, hr, rfl⟩ := List.mem_map.mp hx
  have h1 := (List.mem_filter.mp hr).1
  unfold restsTo at h1
  obtain ⟨k, hk, e2⟩ := List.mem_map.mp h1
  have := List.mem_range.mp hk
  unfold gIn at e
  simp only at e
  split at e
  · cases e
    exact decide_eq_true (by omega)
  · cases e
theorem s_is_one {p q c p' q' c' : Int} {v : D} (G : GW p q c) (G' : GW p' q' c') (hv : vok v = true) (hL : 20 < L) : C L (n+6) 30 [.val (W p q c), .val (W p' q' c'), .val v] = some (.val (.bl (judge p q c p' q' c' v)), []) := by
  have g1 := G.p1; have g2 := G.p2; have g3 := G.q1; have g4 := G.q2
  have k1 := G'.p1; have k2 := G'.p2; have k3 := G'.q1; have k4 := G'.q2
  have hpl := s_law_plain (L := L) (n := n + 4) hv
  rw [call_to (d := b84d30) rfl]
  simp only [b84d30, b84_law_is_one]
  by_cases ht : ∃ ds, v = .tup ds
  · obtain ⟨ds, rfl⟩ := ht
    simp only [plainB] at hpl
    unfold vok at hv
    rw [Bool.and_eq_true, decide_eq_true_eq] at hv
    obtain ⟨hlen, hfl⟩ := hv
    cases hin : ((2 : Int) == ds.length || (4 : Int) == ds.length) with
    | false =>
      have hj : judge p q c p' q' c' (.tup ds) = false := by
        unfold judge
        split
        · rename_i e; cases e; cases hin
        · rename_i e; cases e; cases hin
        · rfl
      rw [hj]
      simp_arith [hpl, nin24, hin]
    | true =>
      match ds, hlen, hfl, hpl, hin with
      | [], hlen, hfl, hpl, hin => cases hin
      | a :: rest, hlen, hfl, hpl, hin =>
        rw [List.all_cons, Bool.and_eq_true] at hfl
        obtain ⟨fa, fr⟩ := hfl
        simp only [List.length_cons] at hin
        by_cases hs : ∃ s, a = .str s
        · obtain ⟨s, rfl⟩ := hs
          have hall := one_parts (L := L) (n := n + 4) (s0 := .val (W p q c)) (s1 := .val (W p' q' c')) (s2 := .val (.tup (.str s :: rest))) fr
          have hne := ne_nil (parts_flat fr)
          rw [parts_none] at hne
          cases hi : rest.all isInt with
          | false =>
            have hj : judge p q c p' q' c' (.tup (.str s :: rest)) = false := by
              unfold judge
              split
              · rename_i e; cases e; cases hi
              · rename_i e; cases e; cases hi
              · rfl
            rw [hj]
            rw [hi] at hne
            simp_arith [hpl, nin24, hin, sl_tup part_int part_non, cut_tail, hall, hne]
          | true =>
            rw [hi] at hne
            match rest, hlen, fr, hpl, hin, hall, hi, hne with
            | [], hlen, fr, hpl, hin, hall, hi, hne => cases hin
            | [b], hlen, fr, hpl, hin, hall, hi, hne =>
              cases b <;> first | (cases hi; done) | skip
              rename_i m
              have hj : judge p q c p' q' c' (.tup [.str s, .int m]) = ((s == "never") && (decide (1 ≤ m) && ((p % m == 0) && ((p' % m == 0) && (firstR (comR q c q' c' m) (restsTo m)).isNone)))) := rfl
              rw [hj]
              cases e1 : (s == ("never" : Str)) with
              | false => simp_arith [hpl, nin24, hin, sl_tup part_int part_non, cut_tail, hall, hne, str_ne fa fl_never, e1]
              | true =>
                by_cases e2 : 1 ≤ m
                · have e2' : decide (m < 1) = false := decide_eq_false (by omega)
                  have hm0 : 0 < m := by omega
                  cases e3 : (p % m == 0) with
                  | false => simp_arith [hpl, nin24, hin, sl_tup part_int part_non, cut_tail, hall, hne, str_ne fa fl_never, e1, e2', decide_eq_true e2, mod_int hm0, e3]
                  | true =>
                    cases e4 : (p' % m == 0) with
                    | false => simp_arith [hpl, nin24, hin, sl_tup part_int part_non, cut_tail, hall, hne, str_ne fa fl_never, e1, e2', decide_eq_true e2, mod_int hm0, e3, e4]
                    | true =>
                      have hmp : m ∣ p := Int.dvd_of_emod_eq_zero (by simpa using e3)
                      have hmp' : m ∣ p' := Int.dvd_of_emod_eq_zero (by simpa using e4)
                      have hle : m ≤ p := Int.le_of_dvd (by omega) hmp
                      have r1 := s_law_rests (L := L) (n := n + 2) G hm0 hmp
                      have r2 := s_law_rests (L := L) (n := n + 2) G' hm0 hmp'
                      obtain ⟨s4, hin0⟩ := one_in0 (L := L) (n := n + 5) (s0 := .val (W p q c)) (s1 := .val (W p' q' c')) (s2 := .val (.tup [.str s, .int m])) (s3 := .val (.int m)) (s5 := .nil) (l2 := (restsTo m).filter (hasR q' c' m)) (l1 := (restsTo m).filter (hasR q c m))
                      have heq := eq_nil (common_flat (q := q) (c := c) (m := m) (l2 := (restsTo m).filter (hasR q' c' m)) (by omega))
                      rw [common_eq (p := p) (p' := p')] at heq
                      simp_arith [hpl, nin24, hin, sl_tup part_int part_non, cut_tail, hall, hne, str_ne fa fl_never, e1, e2', decide_eq_true e2, mod_int hm0, e3, e4, r1, r2, hin0, heq]
                · have e2' : decide (m < 1) = true := decide_eq_true (by omega)
                  simp_arith [hpl, nin24, hin, sl_tup part_int part_non, cut_tail, hall, hne, str_ne fa fl_never, e1, e2', decide_eq_false e2]
            | [b, d], hlen, fr, hpl, hin, hall, hi, hne => cases hin
            | [b, d, e], hlen, fr, hpl, hin, hall, hi, hne =>
              cases b <;> first | (cases hi; done) | skip
              cases d <;> first | (cases hi; done) | skip
              cases e <;> first | (cases hi; done) | skip
              rename_i d e f
              have hj : judge p q c p' q' c' (.tup [.str s, .int d, .int e, .int f]) = ((s == "both") && (((p * e + c) / q == d) && ((p' * f + c') / q' == d))) := rfl
              rw [hj]
              have h1 := s_law_day (L := L) (n := n + 4) (p := p) (q := q) (c := c) (e := e) (mulS (by omega)) (divOk_of (by omega) (by omega))
              have h2 := s_law_day (L := L) (n := n + 4) (p := p') (q := q') (c := c') (e := f) (mulS (by omega)) (divOk_of (by omega) (by omega))
              cases e1 : (s == ("both" : Str)) with
              | false => simp_arith [hpl, nin24, hin, sl_tup part_int part_non, cut_tail, hall, hne, str_eq fa fl_both, e1]
              | true =>
                cases e2 : ((p * e + c) / q == d) <;> simp_arith [hpl, nin24, hin, sl_tup part_int part_non, cut_tail, hall, hne, str_eq fa fl_both, e1, h1, h2, e2]
            | _ :: _ :: _ :: _ :: _, hlen, fr, hpl, hin, hall, hi, hne =>
              simp only [List.length_cons, Bool.or_eq_true, beq_iff_eq] at hin
              omega
        · have hj : judge p q c p' q' c' (.tup (a :: rest)) = false := by
            unfold judge
            split
            · rename_i e; cases e; exact absurd ⟨_, rfl⟩ hs
            · rename_i e; cases e; exact absurd ⟨_, rfl⟩ hs
            · rfl
          rw [hj]
          cases a <;> first | (cases fa; done) | exact absurd ⟨_, rfl⟩ hs | simp_arith [hpl, nin24, hin]
  · have hj : judge p q c p' q' c' v = false := by
      unfold judge
      split
      · exact absurd ⟨_, rfl⟩ ht
      · exact absurd ⟨_, rfl⟩ ht
      · rfl
    rw [hj]
    cases v <;> first | (cases hv; done) | exact absurd ⟨_, rfl⟩ ht | (simp only [plainB] at hpl; simp_arith [hpl])
end
end K84

-- K84P9
set_option maxHeartbeats 8000000
namespace K84
open PySem Pi
def Strm (S : List D) : Prop := ∃ (ns : List Int) (cell k : Int), S = [.ls (ns.map D.int), .int cell, .int k] ∧ 0 ≤ k
theorem pow60 : evalBin .pow (.int 10) (.int 60) = some (.val (.int 1000000000000000000000000000000000000000000000000000000000000)) := by rfl
theorem pow18 : evalBin .pow (.int 10) (.int 18) = some (.val (.int 1000000000000000000)) := by rfl
theorem ix31 : L2.ixN 3 1 = some 1 := rfl
theorem ix32 : L2.ixN 3 2 = some 2 := rfl
section
variable {L n : Nat}
theorem s_next {S : List D} {many : Int} (hS : Strm S) (h0 : 0 < many) (h1 : many < 2 ^ 60) : ∃ (r : Int) (S' : List D), C L (n+1) 17 [.own S, .val (.int many)] = some (.val (.int r), [S']) ∧ Strm S' ∧ 0 ≤ r ∧ r < many := by
  obtain ⟨ns, cell, k, rfl, hk⟩ := hS
  have hd : DivOk many := divOk_of h0 (by omega)
  have fin : ∀ cell k : Int, 0 ≤ cell % many ∧ cell % many < many := fun cell k => ⟨Int.emod_nonneg _ (by omega), Int.emod_lt_of_pos _ h0⟩
  have m1 : (0 : Int) < 2147483647 := by decide
  have m2 : (0 : Int) < 1000000000000000000000000000000000000000000000000000000000000 := by decide
  have mr : ∀ i j : Int, -1000000 ≤ j ∧ j ≤ 1000000 → decide (Pi.MulOk i j) = true := fun i j h => decide_eq_true (mulOk_r (by omega) (by omega))
  have mm1 := fun i => mr i 48271 (by decide)
  have mm2 := fun i => mr i 69621 (by decide)
  have mm3 := fun i => mr i 16807 (by decide)
  have mm4 := fun i => mr i 65537 (by decide)
  rw [call_to (d := b84d17) rfl]
  simp only [b84d17, b84_law_next]
  cases e1 : (cell == 0) with
  | false =>
    refine ⟨_, _, by simp_arith [e1, mod_int h0, fdiv_int hd, ix31, ix32]; rfl, ⟨ns, _, k, rfl, hk⟩, (fin _ 0).1, (fin _ 0).2⟩
  | true =>
    by_cases e2 : k < (ns.map D.int).length
    · have e2' : decide (k < ((ns.map D.int).length : Int)) = true := decide_eq_true e2
      obtain ⟨x, hx⟩ : ∃ x : Int, L2.atI (ns.map D.int) k = some (.int x) := by
        rw [List.length_map] at e2
        have hlt : k.toNat < ns.length := by omega
        refine ⟨ns[k.toNat], ?_⟩
        have := at_nat (ds := ns.map D.int) (k := k.toNat) (x := .int ns[k.toNat]) (by rw [List.getElem?_map, List.getElem?_eq_getElem hlt]; rfl)
        rwa [show ((k.toNat : Nat) : Int) = k by omega] at this
      cases e3 : decide ((if x < 0 then -x else x) % 1000000000000000000000000000000000000000000000000000000000000 < 1000000000000000000) with
      | false =>
        refine ⟨_, _, by simp_arith [e1, e2', hx, pow60, pow18, mod_int m2, mod_int m1, e3, mod_int h0, fdiv_int hd, ix31, ix32, mm1, mm2, mm3, mm4]; rfl, ⟨ns, _, k + 1, rfl, by omega⟩, (fin _ 0).1, (fin _ 0).2⟩
      | true =>
        refine ⟨_, _, by simp_arith [e1, e2', hx, pow60, pow18, mod_int m2, mod_int m1, e3, mod_int h0, fdiv_int hd, ix31, ix32, mm1, mm2, mm3, mm4]; rfl, ⟨ns, _, k + 1, rfl, by omega⟩, (fin _ 0).1, (fin _ 0).2⟩
    · have e2' : decide (k < ((ns.map D.int).length : Int)) = false := decide_eq_false e2
      cases e3 : decide (7 + k < 1000000000000000000) with
      | false =>
        refine ⟨_, _, by simp_arith [e1, e2', pow60, pow18, mod_int m2, mod_int m1, e3, mod_int h0, fdiv_int hd, ix31, ix32, mm1, mm2, mm3, mm4]; rfl, ⟨ns, _, k + 1, rfl, by omega⟩, (fin _ 0).1, (fin _ 0).2⟩
      | true =>
        refine ⟨_, _, by simp_arith [e1, e2', pow60, pow18, mod_int m2, mod_int m1, e3, mod_int h0, fdiv_int hd, ix31, ix32, mm1, mm2, mm3, mm4]; rfl, ⟨ns, _, k + 1, rfl, by omega⟩, (fin _ 0).1, (fin _ 0).2⟩
theorem s_stream {ns : List Int} : C L (n+1) 16 [.val (.ls (ns.map D.int))] = some (.own [.ls (ns.map D.int), .int 0, .int 0], []) := by
  rw [call_to (d := b84d16) rfl]
  simp only [b84d16, b84_law_stream]
  simp_arith []
theorem s_pick {S ds : List D} (hS : Strm S) (h0 : ds ≠ []) (h1 : ds.length < 1000) : ∃ (x : D) (S' : List D), C L (n+2) 18 [.own S, .val (.ls ds)] = some (.val x, [S']) ∧ Strm S' ∧ x ∈ ds := by
  have hpos : 0 < ds.length := List.length_pos_iff.mpr h0
  obtain ⟨r, S', e1, e2, e3, e4⟩ := s_next (L := L) (n := n) (many := (ds.length : Int)) hS (by omega) (by omega)
  have hlt : r.toNat < ds.length := by omega
  have hx : L2.atI ds r = some ds[r.toNat] := by
    have := at_nat (ds := ds) (k := r.toNat) (x := ds[r.toNat]) (List.getElem?_eq_getElem hlt)
    rwa [show ((r.toNat : Nat) : Int) = r by omega] at this
  refine ⟨ds[r.toNat], S', ?_, e2, List.getElem_mem _⟩
  rw [call_to (d := b84d18) rfl]
  simp only [b84d18, b84_law_pick]
  simp_arith [e1, hx]
theorem div_loop {cl : Oracle} : ∀ (xs : List D) (a b : Int) (s : Slot), nio s = true → 0 ≤ b → b.toNat < xs.length → ∃ (e : En), outsOf [false, false] e = some [] ∧
    doF cl L (.nm 2) (.cons (.ife (.cmp .eq (.var 1) (.cst (.int (0)))) (.cons (.ret (.bi .abs (.cons (.var 0) .nil))) .nil) .nil) (.cons (.asl [0, 1] (.cons (.var 1) (.cons (.bin .mod (.bi .int (.cons (.var 0) .nil)) (.var 1)) .nil))) .nil)) xs [.val (.int a), .val (.int b), s] = some (.rt (.val (.int (Int.gcd a b))) e)
  | [], a, b, s, hs, h0, h => by simp at h
  | x :: xs, a, b, s, hs, h0, h => by
    by_cases hb : b = 0
    · subst hb
      refine ⟨[.val (.int a), .val (.int 0), .val x], rfl, ?_⟩
      have : (if a < 0 then -a else a) = (Int.gcd a 0 : Int) := by
        rw [Int.gcd_zero_right]
        split <;> omega
      simp_arith [f_cons, hs, this]
    · have hb' : (b == 0) = false := by simpa using hb
      have hp : 0 < b := by omega
      have h1 := Int.emod_nonneg a hb
      have h2 := Int.emod_lt_of_pos a hp
      obtain ⟨e, e1, e2⟩ := div_loop (cl := cl) xs b (a % b) (.val x) rfl h1 (by rw [List.length_cons] at h; omega)
      refine ⟨e, e1, ?_⟩
      rw [gcd_step] at e2
      rw [← e2]
      simp_arith [f_cons, hs, hb', mod_int hp]
theorem s_divisor {a b : Int} (h0 : 0 ≤ b) (h1 : b < 900) : C L (n+1) 22 [.val (.int a), .val (.int b)] = some (.val (.int (Int.gcd a b)), []) := by
  rw [call_to (d := b84d22) rfl]
  simp only [b84d22, b84_law_divisor]
  have hl : (rangeD 0 (1000 : Int).toNat).length = 1000 := by unfold rangeD; rw [List.length_map, List.length_range]; rfl
  obtain ⟨e, e1, e2⟩ := div_loop (L := L) (cl := C L n) (rangeD 0 (1000 : Int).toNat) a b .nil rfl h0 (by omega)
  have hs : decide (Small (1000 : Int)) = true := by decide
  simp_arith [hs, e2, e1]
theorem s_lowest {a b : Int} (a0 : 0 < a) (h0 : 0 < b) (h1 : b < 900) : C L (n+2) 23 [.val (.int a), .val (.int b)] = some (.val (.tup [.int (a / Int.gcd a b), .int (b / Int.gcd a b)]), []) := by
  have hg := s_divisor (L := L) (n := n) (a := a) (b := b) (by omega) h1
  have g0 : 0 < (Int.gcd a b : Int) := by
    have : Int.gcd a b ≠ 0 := by rw [Ne, Int.gcd_eq_zero_iff]; omega
    omega
  have g1 : (Int.gcd a b : Int) ≤ b := Int.le_of_dvd h0 (Int.gcd_dvd_right a b)
  have hd : DivOk (Int.gcd a b : Int) := divOk_of g0 (by omega)
  rw [call_to (d := b84d23) rfl]
  simp only [b84d23, b84_law_lowest]
  simp_arith [hg, fdiv_int hd]
theorem pair_step {S : List D} {fd : List D} (x : D) (s3 s4 s5 : Slot) (hS : Strm S) (h3 : nio s3 = true) (h4 : nio s4 = true) (h5 : nio s5 = true) (hl : fd.length < 100) : ∃ (p q c : Int) (S' : List D) (s4' s5' : Slot), GW p q c ∧ Strm S' ∧ nio s4' = true ∧ nio s5' = true ∧
    (bindO (bindTg (.nm 3) x [.io S, .val (.int 14), .own fd, s3, s4, s5]) fun e => evalSs (C L (n+3)) L (.cons (.asg (.tp [4, 5]) (.call 23 (.cons (.bin .add (.cst (.int (1))) (.call 17 (.cons (.io 0) (.cons (.var 1) .nil)) [])) (.cons (.bin .add (.cst (.int (1))) (.call 17 (.cons (.io 0) (.cons (.var 1) .nil)) [])) .nil)) [])) (.cons (.app 2 (.tup (.cons (.var 4) (.cons (.var 5) (.cons (.bin .sub (.call 17 (.cons (.io 0) (.cons (.bin .mul (.cst (.int (2))) (.var 1)) .nil)) []) (.var 1)) .nil))))) .nil)) e) =
      some (.nx [.io S', .val (.int 14), .own (fd ++ [W p q c]), .val x, s4', s5']) := by
  obtain ⟨a, S1, a1, a2, a3, a4⟩ := s_next (L := L) (n := n + 2) (many := 14) hS (by omega) (by omega)
  obtain ⟨b, S2, b1, b2, b3, b4⟩ := s_next (L := L) (n := n + 2) (many := 14) a2 (by omega) (by omega)
  obtain ⟨c, S3, c1, c2, c3, c4⟩ := s_next (L := L) (n := n + 2) (many := 28) b2 (by omega) (by omega)
  have hlow := s_lowest (L := L) (n := n + 1) (a := 1 + a) (b := 1 + b) (by omega) (by omega) (by omega)
  have hm : Pi.MulOk (2 : Int) 14 := mulS (by omega)
  have hlen : decide (fd.length < 16777216) = true := decide_eq_true (by omega)
  have g0 : 0 < (Int.gcd (1 + a) (1 + b) : Int) := by
    have : Int.gcd (1 + a) (1 + b) ≠ 0 := by rw [Ne, Int.gcd_eq_zero_iff]; omega
    omega
  have t1 : 0 < (1 + a) / (Int.gcd (1 + a) (1 + b) : Int) := Int.ediv_pos_of_pos_of_dvd (by omega) (by omega) (Int.gcd_dvd_left _ _)
  have t2 : (1 + a) / (Int.gcd (1 + a) (1 + b) : Int) ≤ 1 + a := Int.ediv_le_self _ (by omega)
  have t3 : 0 < (1 + b) / (Int.gcd (1 + a) (1 + b) : Int) := Int.ediv_pos_of_pos_of_dvd (by omega) (by omega) (Int.gcd_dvd_right _ _)
  have t4 : (1 + b) / (Int.gcd (1 + a) (1 + b) : Int) ≤ 1 + b := Int.ediv_le_self _ (by omega)
  refine ⟨(1 + a) / (Int.gcd (1 + a) (1 + b) : Int), (1 + b) / (Int.gcd (1 + a) (1 + b) : Int), c - 14, S3, .val (.int ((1 + a) / (Int.gcd (1 + a) (1 + b) : Int))), .val (.int ((1 + b) / (Int.gcd (1 + a) (1 + b) : Int))), ⟨by omega, by omega, by omega, by omega, Int.gcd_ediv_gcd_ediv_gcd (by omega), by omega, by omega⟩, c2, rfl, rfl, ?_⟩
  have h28 : (2 * 14 : Int) = 28 := by decide
  simp_arith [h3, h4, h5, a1, b1, hlow, decide_eq_true hm, h28, c1, hlen]
theorem s_pair {S : List D} (hS : Strm S) : ∃ (p q c p' q' c' : Int) (S' : List D), GW p q c ∧ GW p' q' c' ∧ Strm S' ∧ C L (n+4) 26 [.own S, .val (.int 14)] = some (.own [W p q c, W p' q' c'], [S']) := by
  obtain ⟨p, q, c, S1, s4, s5, g1, g2, g3, g4, g5⟩ := pair_step (L := L) (n := n) (fd := []) (.int 0) .nil .nil .nil hS rfl rfl rfl (by simp)
  obtain ⟨p', q', c', S2, t4, t5, k1, k2, k3, k4, k5⟩ := pair_step (L := L) (n := n) (fd := [W p q c]) (.int 1) (.val (.int 0)) s4 s5 g2 rfl g3 g4 (by simp)
  refine ⟨p, q, c, p', q', c', S2, g1, k1, k2, ?_⟩
  have hr : rangeD 0 (2 : Int).toNat = [.int 0, .int 1] := by rfl
  have hs : decide (Small (2 : Int)) = true := by decide
  rw [call_to (d := b84d26) rfl]
  simp only [b84d26, b84_law_pair]
  rw [List.nil_append] at g5
  have hdo := (f_step (xs := [.int 1]) g5).trans ((f_step (xs := []) k5).trans f_nil)
  simp_arith [hs, hr, hdo]
end
end K84

-- K84P10
set_option maxHeartbeats 8000000
namespace K84
open PySem Pi
def flat0 : D → Bool
  | .int i => decide (-(10 ^ 9) ≤ i ∧ i ≤ 10 ^ 9)
  | .str s => decide (s = "both" ∨ s = "never")
  | .bl _ => true
  | .non => true
  | _ => false
def vok0 : D → Bool
  | .tup ds => decide (ds.length ≤ 5) && ds.all flat0
  | .ls ds => decide (ds.length ≤ 5) && ds.all flat0
  | d => flat0 d
theorem flat_of0 {d : D} (h : flat0 d = true) : flat d = true := by
  cases d with
  | int i => have := of_decide_eq_true h; exact decide_eq_true (by omega)
  | str s =>
    have hs : s = "both" ∨ s = "never" := of_decide_eq_true h
    rcases hs with e | e <;> (subst e; decide +kernel)
  | bl _ => rfl
  | non => rfl
  | tup _ => cases h
  | ls _ => cases h
  | fn _ => cases h
theorem flats_of0 {ds : List D} (h : ds.all flat0 = true) : ds.all flat = true := by
  rw [List.all_eq_true] at h ⊢
  exact fun x hx => flat_of0 (h x hx)
theorem vok_of0 {d : D} (h : vok0 d = true) : vok d = true := by
  cases d with
  | tup ds =>
    unfold vok0 at h; unfold vok
    rw [Bool.and_eq_true, decide_eq_true_eq] at h ⊢
    exact ⟨by omega, flats_of0 h.2⟩
  | ls ds =>
    unfold vok0 at h; unfold vok
    rw [Bool.and_eq_true, decide_eq_true_eq] at h ⊢
    exact ⟨by omega, flats_of0 h.2⟩
  | int i => exact flat_of0 (d := .int i) h
  | str i => exact flat_of0 (d := .str i) h
  | bl i => rfl
  | non => rfl
  | fn i => cases h
theorem cut_le (ds : List D) (a b : Option Int) : (cutD ds a b).length ≤ ds.length := cutD_length ds a b
theorem cut_mem {ds : List D} {a b : Option Int} {x : D} (h : x ∈ cutD ds a b) : x ∈ ds := by
  unfold cutD at h
  exact List.mem_of_mem_drop (List.mem_of_mem_take h)
theorem cut_flat {ds : List D} {a b : Option Int} (h : ds.all flat0 = true) : (cutD ds a b).all flat = true := by
  rw [List.all_eq_true] at h ⊢
  exact fun x hx => flat_of0 (h x (cut_mem hx))
theorem add_tupB {xs ys : List D} (h : xs.length + ys.length ≤ 1000) : evalBin .add (.tup xs) (.tup ys) = some (.val (.tup (xs ++ ys))) := by
  rw [add_tup, sizeLine_v, decide_eq_true (by omega)]
  rfl
theorem mul_two {xs : List D} (h : xs.length ≤ 1000) : evalBin .mul (.tup xs) (.int 2) = some (.val (.tup (xs ++ xs))) := by
  show (if (2 : Int) ≤ 2 ∧ (2 : Int) ≤ 1000 ∧ xs.length ≤ 1000 then some (Slot.val (.tup (List.replicate (2 : Int).toNat xs).flatten)) else none) = _
  rw [if_pos ⟨by omega, by omega, h⟩]
  congr 3
  show (List.replicate 2 xs).flatten = _
  simp [List.replicate]
theorem ne_unit {ds : List D} (h : ds.all flat = true) : evalCmp .ne (.tup ds) (.tup []) = some (!ds.isEmpty) := by
  show (if (D.tup ds).shp = true ∧ (D.tup []).shp = true then some (!D.eqv (.tup ds) (.tup [])) else none) = _
  rw [if_pos ⟨shp_tup h, shp_tup (ds := []) rfl⟩]
  cases ds <;> rfl
theorem rev_tup {ds : List D} : revD (.tup ds) = some (.val (.tup ds.reverse)) := rfl
theorem rev_ls {ds : List D} : revD (.ls ds) = some (.own ds.reverse) := rfl
section
variable {L n : Nat}
def Way (v : D) (way : List D) (one : D) : Prop := (way = [] ∧ one = v) ∨ ∃ ds at_, v = .tup ds ∧ 0 ≤ at_ ∧ at_ < (ds.length : Int) ∧ way = [.tup [.tup ds, .int at_]] ∧ one ∈ ds
theorem way_loop {v : D} (hv : vok0 v = true) : ∀ (xs : List D) (S way : List D) (one : D) (s4 s5 : Slot), Strm S → nio s4 = true → nio s5 = true → Way v way one →
    ∃ (S' way' : List D) (one' : D) (s4' s5' : Slot), Strm S' ∧ nio s4' = true ∧ nio s5' = true ∧ Way v way' one' ∧
    doF (C L (n+1)) L (.nm 4) (.cons (.ife (.and (.isi (.var 3) .tuple) (.cmp .ne (.var 3) (.tup .nil))) (.cons (.asg (.nm 5) (.call 17 (.cons (.io 0) (.cons (.lenv 3) .nil)) [])) (.cons (.app 2 (.tup (.cons (.var 3) (.cons (.var 5) .nil)))) (.cons (.asg (.nm 3) (.ixv 3 (.var 5))) .nil))) .nil) .nil) xs [.io S, .val v, .own way, .val one, s4, s5, .nil, .nil] =
      some (.nx [.io S', .val v, .own way', .val one', s4', s5', .nil, .nil])
  | [], S, way, one, s4, s5, hS, h4, h5, hw => ⟨S, way, one, s4, s5, hS, h4, h5, hw, rfl⟩
  | x :: xs, S, way, one, s4, s5, hS, h4, h5, hw => by
    by_cases ht : ∃ ds, one = .tup ds ∧ ds ≠ []
    · obtain ⟨ds, rfl, hne⟩ := ht
      have hv' : v = .tup ds ∧ way = [] := by
        rcases hw with ⟨h1, h2⟩ | ⟨es, at_, h1, h2, h3, h4, h5⟩
        · exact ⟨h2.symm, h1⟩
        · subst h1
          unfold vok0 at hv
          rw [Bool.and_eq_true] at hv
          have := List.all_eq_true.mp hv.2 _ h5
          cases this
      obtain ⟨rfl, rfl⟩ := hv'
      unfold vok0 at hv
      rw [Bool.and_eq_true, decide_eq_true_eq] at hv
      have hpos : 0 < ds.length := List.length_pos_iff.mpr hne
      obtain ⟨r, S1, r1, r2, r3, r4⟩ := s_next (L := L) (n := n) (many := (ds.length : Int)) hS (by omega) (by omega)
      have hlt : r.toNat < ds.length := by omega
      have hx : L2.atI ds r = some ds[r.toNat] := by
        have := at_nat (ds := ds) (k := r.toNat) (x := ds[r.toNat]) (List.getElem?_eq_getElem hlt)
        rwa [show ((r.toNat : Nat) : Int) = r by omega] at this
      have hu := ne_unit (flats_of0 hv.2)
      have hemp : ds.isEmpty = false := by simpa using hne
      rw [hemp] at hu
      obtain ⟨S', way', one', s4', s5', q1, q2, q3, q4, q5⟩ := way_loop (by unfold vok0; rw [Bool.and_eq_true, decide_eq_true_eq]; exact hv) xs S1 [.tup [.tup ds, .int r]] ds[r.toNat] (.val x) (.val (.int r)) r2 rfl rfl (.inr ⟨ds, r, rfl, r3, r4, rfl, List.getElem_mem _⟩)
      refine ⟨S', way', one', s4', s5', q1, q2, q3, q4, ?_⟩
      rw [← q5]
      apply f_step
      simp_arith [h4, h5, hu, r1, hx]
    · obtain ⟨S', way', one', s4', s5', q1, q2, q3, q4, q5⟩ := way_loop hv xs S way one (.val x) s5 hS rfl h5 hw
      refine ⟨S', way', one', s4', s5', q1, q2, q3, q4, ?_⟩
      rw [← q5]
      apply f_step
      have hfn : noFn one = true := by
        rcases hw with ⟨_, rfl⟩ | ⟨es, at_, rfl, _, _, _, h5⟩
        · exact vok_noFn (vok_of0 hv)
        · unfold vok0 at hv
          rw [Bool.and_eq_true] at hv
          exact flat_noFn (flat_of0 (List.all_eq_true.mp hv.2 _ h5))
      cases one with
      | tup ds =>
        have : ds = [] := by
          by_cases h : ds = []
          · exact h
          · exact absurd ⟨ds, rfl, h⟩ ht
        subst this
        have hu := ne_unit (ds := []) rfl
        simp only [List.isEmpty_nil, Bool.not_true] at hu
        simp_arith [h4, hu]
      | fn j => cases hfn
      | _ => simp_arith [h4]
theorem ss_nx {cl : Oracle} {s : CS} {ss : CSs} {env e : En} (h : evalS cl L s env = some (.nx e)) : evalSs cl L (.cons s ss) env = evalSs cl L ss e := by
  rw [r_scons, h]
  rfl
def midT : CSs := (.cons (.asg (.nm 5) (.call 17 (.cons (.io 0) (.cons (.bin .add (.lenv 3) (.cst (.int (1)))) .nil)) [])) (.cons (.asg (.nm 6) (.lst (.cons (.bin .add (.slv 3 (.cst .non) (.var 5)) (.slv 3 (.bin .add (.var 5) (.cst (.int (1)))) (.cst .non))) (.cons (.bin .add (.bin .add (.slv 3 (.cst .non) (.var 5)) (.bin .mul (.slv 3 (.var 5) (.bin .add (.var 5) (.cst (.int (1))))) (.cst (.int (2))))) (.slv 3 (.bin .add (.var 5) (.cst (.int (1)))) (.cst .non))) (.cons (.rev (.var 3)) (.cons (.bi .list (.cons (.var 3) .nil)) .nil)))))) (.cons (.asg (.nm 3) (.call 18 (.cons (.io 0) (.cons (.bin .add (.var 6) (.lst (.cons (.bin .add (.bin .add (.bin .add (.slv 3 (.cst .non) (.var 5)) (.slv 3 (.bin .add (.var 5) (.cst (.int (1)))) (.bin .add (.var 5) (.cst (.int (2)))))) (.slv 3 (.var 5) (.bin .add (.var 5) (.cst (.int (1)))))) (.slv 3 (.bin .add (.var 5) (.cst (.int (2)))) (.cst .non))) (.cons (.cst .non) .nil)))) .nil)) [])) .nil)))
def midF : CSs := (.cons (.ife (.isi (.var 3) .int) (.cons (.asg (.nm 3) (.call 18 (.cons (.io 0) (.cons (.lst (.cons (.bin .add (.var 3) (.cst (.int (1)))) (.cons (.bin .sub (.var 3) (.cst (.int (1)))) (.cons (.bin .add (.var 3) (.cst (.int (1)))) (.cons (.bin .sub (.var 3) (.cst (.int (1)))) (.cons (.cst (.int (0))) (.cons (.cst (.int (9999))) (.cons (.cmp .eq (.var 3) (.cst (.int (1)))) (.cons (.cst .non) .nil))))))))) .nil)) [])) .nil) (.cons (.ife (.isi (.var 3) .str) (.cons (.asg (.nm 3) (.call 18 (.cons (.io 0) (.cons (.lst (.cons (.cst (.str "beat")) (.cons (.cst (.str "steps")) (.cons (.cst (.str "both")) (.cons (.cst (.str "never")) (.cons (.cst (.str "from")) (.cons (.cst (.str "by")) (.cons (.cst (.str "at least")) (.cons (.cst (.str "below")) (.cons (.bin .add (.var 3) (.cst (.str "a"))) (.cons (.slv 3 (.cst .non) (.neg (.cst (.int (1))))) (.cons (.cst (.int (0))) .nil)))))))))))) .nil)) [])) .nil) (.cons (.asg (.nm 3) (.cst (.int (0)))) .nil)) .nil)) .nil)
theorem mid_tup {v : D} {ds S : List D} {s4 s5 : Slot} (hl : ds.length ≤ 5) (hf : ds.all flat0 = true) (hS : Strm S) (h4 : nio s4 = true) (h5 : nio s5 = true) : ∃ (S' : List D) (one' : D) (s5' s6' : Slot), Strm S' ∧ nio s5' = true ∧ nio s6' = true ∧ vok one' = true ∧
    evalSs (C L (n+2)) L midT [.io S, .val v, .own [], .val (.tup ds), s4, s5, .nil, .nil] = some (.nx [.io S', .val v, .own [], .val one', s4, s5', s6', .nil]) := by
  obtain ⟨r, S1, r1, r2, r3, r4⟩ := s_next (L := L) (n := n + 1) (many := (ds.length : Int) + 1) hS (by omega) (by omega)
  have lA := cut_le ds none (some r)
  have lB := cut_le ds (some (r + 1)) none
  have lM := cut_le ds (some r) (some (r + 1))
  have lC := cut_le ds (some (r + 1)) (some (r + 2))
  have lE := cut_le ds (some (r + 2)) none
  have fA := cut_flat (a := none) (b := some r) hf
  have fB := cut_flat (a := some (r + 1)) (b := none) hf
  have fM := cut_flat (a := some r) (b := some (r + 1)) hf
  have fC := cut_flat (a := some (r + 1)) (b := some (r + 2)) hf
  have fE := cut_flat (a := some (r + 2)) (b := none) hf
  have a1 := add_tupB (xs := cutD ds none (some r)) (ys := cutD ds (some (r + 1)) none) (by omega)
  have a2 := mul_two (xs := cutD ds (some r) (some (r + 1))) (by omega)
  have a3 := add_tupB (xs := cutD ds none (some r)) (ys := cutD ds (some r) (some (r + 1)) ++ cutD ds (some r) (some (r + 1))) (by rw [List.length_append]; omega)
  have a4 := add_tupB (xs := cutD ds none (some r) ++ (cutD ds (some r) (some (r + 1)) ++ cutD ds (some r) (some (r + 1)))) (ys := cutD ds (some (r + 1)) none) (by simp only [List.length_append]; omega)
  have a5 := add_tupB (xs := cutD ds none (some r)) (ys := cutD ds (some (r + 1)) (some (r + 2))) (by omega)
  have a6 := add_tupB (xs := cutD ds none (some r) ++ cutD ds (some (r + 1)) (some (r + 2))) (ys := cutD ds (some r) (some (r + 1))) (by simp only [List.length_append]; omega)
  have a7 := add_tupB (xs := cutD ds none (some r) ++ cutD ds (some (r + 1)) (some (r + 2)) ++ cutD ds (some r) (some (r + 1))) (ys := cutD ds (some (r + 2)) none) (by simp only [List.length_append]; omega)
  have al : ∀ xs ys : List D, xs.length + ys.length ≤ 1000 → evalBin .add (.ls xs) (.ls ys) = some (.own (xs ++ ys)) := fun xs ys h => by
    rw [add_ls, sizeLine_v, decide_eq_true (by omega)]; rfl
  generalize hA : cutD ds none (some r) = A at *
  generalize hB : cutD ds (some (r + 1)) none = B at *
  generalize hM : cutD ds (some r) (some (r + 1)) = M at *
  generalize hC : cutD ds (some (r + 1)) (some (r + 2)) = C0 at *
  generalize hE : cutD ds (some (r + 2)) none = E0 at *
  have a8 := al [.tup (A ++ B), .tup (A ++ (M ++ M) ++ B), .tup ds.reverse, .ls ds] [.tup (A ++ C0 ++ M ++ E0), .non] (by simp)
  obtain ⟨x, S2, x1, x2, x3⟩ := s_pick (L := L) (n := n) (ds := [.tup (A ++ B), .tup (A ++ (M ++ M) ++ B), .tup ds.reverse, .ls ds, .tup (A ++ C0 ++ M ++ E0), .non]) r2 (by simp) (by simp)
  refine ⟨S2, x, .val (.int r), .val (.ls [.tup (A ++ B), .tup (A ++ (M ++ M) ++ B), .tup ds.reverse, .ls ds]), x2, rfl, rfl, ?_, ?_⟩
  · have fd := flats_of0 hf
    simp only [List.mem_cons, List.not_mem_nil, or_false] at x3
    rcases x3 with rfl | rfl | rfl | rfl | rfl | rfl
    · unfold vok; rw [Bool.and_eq_true, decide_eq_true_eq]; exact ⟨by simp only [List.length_append]; omega, by simp only [List.all_append, fA, fB, Bool.and_self]⟩
    · unfold vok; rw [Bool.and_eq_true, decide_eq_true_eq]; exact ⟨by simp only [List.length_append]; omega, by simp only [List.all_append, fA, fB, fM, Bool.and_self]⟩
    · unfold vok; rw [Bool.and_eq_true, decide_eq_true_eq]; exact ⟨by rw [List.length_reverse]; omega, by rw [List.all_reverse]; exact fd⟩
    · unfold vok; rw [Bool.and_eq_true, decide_eq_true_eq]; exact ⟨by omega, fd⟩
    · unfold vok; rw [Bool.and_eq_true, decide_eq_true_eq]; exact ⟨by simp only [List.length_append]; omega, by simp only [List.all_append, fA, fC, fM, fE, Bool.and_self]⟩
    · rfl
  · unfold midT
    simp_arith [r1, h4, h5, sl_tup part_non part_int, sl_tup part_int part_non, sl_tup part_int part_int, hA, hB, hM, hC, hE, a1, a2, a3, a4, a5, a6, a7, a8, rev_tup, x1]
theorem eq_bl1 {b : Bool} : evalCmp .eq (.bl b) (.int 1) = some (D.eqv (.bl b) (.int 1)) := by cases b <;> rfl
def bn (b : Bool) : Int := if b = true then 1 else 0
theorem add_bl {b : Bool} {j : Int} : evalBin .add (.bl b) (.int j) = some (.val (.int (bn b + j))) := rfl
theorem sub_bl {b : Bool} {j : Int} : evalBin .sub (.bl b) (.int j) = some (.val (.int (bn b - j))) := rfl
theorem mid_flat {v one : D} {S way : List D} {s4 s5 : Slot} (ht : ∀ ds, one ≠ .tup ds) (ho : vok0 one = true) (hS : Strm S) (h4 : nio s4 = true) (h5 : nio s5 = true) : ∃ (S' : List D) (one' : D), Strm S' ∧ flat one' = true ∧
    evalSs (C L (n+2)) L midF [.io S, .val v, .own way, .val one, s4, s5, .nil, .nil] = some (.nx [.io S', .val v, .own way, .val one', s4, s5, .nil, .nil]) := by
  cases one with
  | tup ds => exact absurd rfl (ht ds)
  | fn j => cases ho
  | ls ds => exact ⟨S, .int 0, hS, rfl, by unfold midF; simp_arith []⟩
  | non => exact ⟨S, .int 0, hS, rfl, by unfold midF; simp_arith []⟩
  | int i =>
    have hi := of_decide_eq_true (show decide (-(10 ^ 9 : Int) ≤ i ∧ i ≤ 10 ^ 9) = true from ho)
    obtain ⟨x, S2, x1, x2, x3⟩ := s_pick (L := L) (n := n) (ds := [.int (i + 1), .int (i - 1), .int (i + 1), .int (i - 1), .int 0, .int 9999, .bl (i == 1), .non]) hS (by simp) (by simp)
    refine ⟨S2, x, x2, ?_, by unfold midF; simp_arith [x1]⟩
    simp only [List.mem_cons, List.not_mem_nil, or_false] at x3
    rcases x3 with rfl | rfl | rfl | rfl | rfl | rfl | rfl | rfl <;> first | rfl | (exact decide_eq_true (by omega))
  | bl b =>
    obtain ⟨x, S2, x1, x2, x3⟩ := s_pick (L := L) (n := n) (ds := [.int (bn b + 1), .int (bn b - 1), .int (bn b + 1), .int (bn b - 1), .int 0, .int 9999, .bl (D.eqv (.bl b) (.int 1)), .non]) hS (by simp) (by simp)
    refine ⟨S2, x, x2, ?_, by unfold midF; simp_arith [x1, eq_bl1, add_bl, sub_bl]⟩
    simp only [List.mem_cons, List.not_mem_nil, or_false] at x3
    rcases x3 with rfl | rfl | rfl | rfl | rfl | rfl | rfl | rfl <;> first | rfl | (cases b <;> decide)
  | str s =>
    have hs : s = "both" ∨ s = "never" := of_decide_eq_true ho
    have go : ∀ t u : Str, flat (.str t) = true → flat (.str u) = true → evalBin .add (.str s) (.str "a") = some (.val (.str t)) → slD (.str s) .non (.int (-1)) = some (.val (.str u)) → ∃ (S' : List D) (one' : D), Strm S' ∧ flat one' = true ∧
        evalSs (C L (n+2)) L midF [.io S, .val v, .own way, .val (.str s), s4, s5, .nil, .nil] = some (.nx [.io S', .val v, .own way, .val one', s4, s5, .nil, .nil]) := fun t u ft fu ht hu => by
      obtain ⟨x, S2, x1, x2, x3⟩ := s_pick (L := L) (n := n) (ds := [.str "beat", .str "steps", .str "both", .str "never", .str "from", .str "by", .str "at least", .str "below", .str t, .str u, .int 0]) hS (by simp) (by simp)
      refine ⟨S2, x, x2, ?_, by unfold midF; simp_arith [x1, ht, hu]⟩
      simp only [List.mem_cons, List.not_mem_nil, or_false] at x3
      rcases x3 with rfl | rfl | rfl | rfl | rfl | rfl | rfl | rfl | rfl | rfl | rfl <;> first | assumption | rfl | decide +kernel
    rcases hs with rfl | rfl
    · exact go "botha" "bot" (by decide +kernel) (by decide +kernel) (by rfl) (by rfl)
    · exact go "nevera" "neve" (by decide +kernel) (by decide +kernel) (by rfl) (by rfl)
end
end K84

-- K84P11
set_option maxHeartbeats 8000000
namespace K84
open PySem Pi
section
variable {L n : Nat}
def spS2 : CS := (.fr (.nm 4) (.rg1 (.call 17 (.cons (.io 0) (.cons (.cst (.int (6))) .nil)) [])) (.cons (.ife (.and (.isi (.var 3) .tuple) (.cmp .ne (.var 3) (.tup .nil))) (.cons (.asg (.nm 5) (.call 17 (.cons (.io 0) (.cons (.lenv 3) .nil)) [])) (.cons (.app 2 (.tup (.cons (.var 3) (.cons (.var 5) .nil)))) (.cons (.asg (.nm 3) (.ixv 3 (.var 5))) .nil))) .nil) .nil))
def spS4 : CS := (.fr (.tp [7, 5]) (.sq (.rev (.var 2))) (.cons (.asg (.nm 3) (.bin .add (.bin .add (.slv 7 (.cst .non) (.var 5)) (.tup (.cons (.var 3) .nil))) (.slv 7 (.bin .add (.var 5) (.cst (.int (1)))) (.cst .non)))) .nil))
theorem spoiled_is : b84_law_spoiled = (.cons (.asl [2, 3] (.cons (.lst .nil) (.cons (.var 1) .nil))) (.cons spS2 (.cons (.ife (.isi (.var 3) .tuple) midT midF) (.cons spS4 (.cons (.retv 3) .nil))))) := rfl
theorem back0 {cl : Oracle} {S : List D} {v one : D} {s4 s5 s6 : Slot} : evalS cl L spS4 [.io S, .val v, .own [], .val one, s4, s5, s6, .nil] = some (.nx [.io S, .val v, .val (.ls []), .val one, s4, s5, s6, .nil]) := by
  unfold spS4
  simp_arith [rev_ls, List.reverse_nil]
theorem back1 {cl : Oracle} {S ds : List D} {v one : D} {a : Int} {s4 s5 s6 : Slot} (h5 : nio s5 = true) (hl : ds.length ≤ 5) : evalS cl L spS4 [.io S, .val v, .own [.tup [.tup ds, .int a]], .val one, s4, s5, s6, .nil] =
    some (.nx [.io S, .val v, .val (.ls [.tup [.tup ds, .int a]]), .val (.tup (cutD ds none (some a) ++ [one] ++ cutD ds (some (a + 1)) none)), s4, .val (.int a), s6, .val (.tup ds)]) := by
  have lA := cut_le ds none (some a)
  have lB := cut_le ds (some (a + 1)) none
  have a1 := add_tupB (xs := cutD ds none (some a)) (ys := [one]) (by simp; omega)
  have a2 := add_tupB (xs := cutD ds none (some a) ++ [one]) (ys := cutD ds (some (a + 1)) none) (by simp only [List.length_append, List.length_singleton]; omega)
  unfold spS4
  generalize hA : cutD ds none (some a) = A at *
  generalize hB : cutD ds (some (a + 1)) none = B at *
  simp_arith [rev_ls, List.reverse_singleton, f_cons, h5, sl_tup part_non part_int, sl_tup part_int part_non, hA, hB, a1, a2]
theorem s_spoiled {S : List D} {v : D} (hS : Strm S) (hv : vok0 v = true) : ∃ (v' : D) (S' : List D), Strm S' ∧ vok v' = true ∧ C L (n+3) 25 [.own S, .val v] = some (.val v', [S']) := by
  obtain ⟨r, S1, r1, r2, r3, r4⟩ := s_next (L := L) (n := n + 1) (many := 6) hS (by omega) (by omega)
  obtain ⟨S2, way, one, s4, s5, q1, q2, q3, q4, q5⟩ := way_loop (L := L) (n := n + 1) hv (rangeD 0 r.toNat) S1 [] v .nil .nil r2 rfl rfl (.inl ⟨rfl, rfl⟩)
  have hs : decide (Small r ∧ r ≤ 16777216) = true := decide_eq_true ⟨⟨by omega, by omega⟩, by omega⟩
  have e1 : evalS (C L (n+2)) L (.asl [2, 3] (.cons (.lst .nil) (.cons (.var 1) .nil))) [.io S, .val v, .nil, .nil, .nil, .nil, .nil, .nil] = some (.nx [.io S, .val v, .own [], .val v, .nil, .nil, .nil, .nil]) := by simp_arith []
  have e2 : evalS (C L (n+2)) L spS2 [.io S, .val v, .own [], .val v, .nil, .nil, .nil, .nil] = some (.nx [.io S2, .val v, .own way, .val one, s4, s5, .nil, .nil]) := by
    unfold spS2
    simp_arith [r1, hs, q5]
  -- what the middle makes of it
  have mid : ∃ (S3 : List D) (one' : D) (s5' s6' : Slot), Strm S3 ∧ nio s5' = true ∧ ((way = [] ∧ vok one' = true) ∨ flat one' = true) ∧
      evalS (C L (n+2)) L (.ife (.isi (.var 3) .tuple) midT midF) [.io S2, .val v, .own way, .val one, s4, s5, .nil, .nil] = some (.nx [.io S3, .val v, .own way, .val one', s4, s5', s6', .nil]) := by
    have hv0 := hv
    by_cases ht : ∃ ds, one = .tup ds
    · obtain ⟨ds, rfl⟩ := ht
      have hw : way = [] ∧ v = .tup ds := by
        rcases q4 with ⟨h1, h2⟩ | ⟨es, a, rfl, _, _, _, hm⟩
        · exact ⟨h1, h2.symm⟩
        · unfold vok0 at hv
          rw [Bool.and_eq_true] at hv
          have := List.all_eq_true.mp hv.2 _ hm
          cases this
      obtain ⟨rfl, rfl⟩ := hw
      unfold vok0 at hv0
      rw [Bool.and_eq_true, decide_eq_true_eq] at hv0
      obtain ⟨S3, one', s5', s6', m1, m2, m3, m4, m5⟩ := mid_tup (L := L) (n := n) (v := .tup ds) (s4 := s4) hv0.1 hv0.2 q1 q2 q3
      refine ⟨S3, one', s5', s6', m1, m2, .inl ⟨rfl, m4⟩, ?_⟩
      rw [r_if]
      simp_arith []
      exact m5
    · have ho : vok0 one = true := by
        rcases q4 with ⟨_, rfl⟩ | ⟨es, a, rfl, _, _, _, hm⟩
        · exact hv
        · unfold vok0 at hv
          rw [Bool.and_eq_true] at hv
          have hf := List.all_eq_true.mp hv.2 _ hm
          cases one <;> first | exact hf | cases hf
      obtain ⟨S3, one', m1, m2, m3⟩ := mid_flat (L := L) (n := n) (v := v) (way := way) (s4 := s4) (fun ds e => ht ⟨ds, e⟩) ho q1 q2 q3
      refine ⟨S3, one', s5, .nil, m1, q3, .inr m2, ?_⟩
      rw [r_if]
      cases one <;> first | (cases ho; done) | exact absurd ⟨_, rfl⟩ ht | (simp_arith []; exact m3)
  obtain ⟨S3, one', s5', s6', m1, m2, m3, m4⟩ := mid
  have fin : ∃ (v' : D) (e : En), vok v' = true ∧ outsOf [true, false] e = some [S3] ∧ evalSs (C L (n+2)) L b84_law_spoiled [.io S, .val v, .nil, .nil, .nil, .nil, .nil, .nil] = some (.rt (.val v') e) := by
    rw [spoiled_is, ss_nx e1, ss_nx e2, ss_nx m4]
    rcases q4 with ⟨rfl, rfl⟩ | ⟨ds, a, rfl, a0, a1, rfl, hm⟩
    · refine ⟨one', [.io S3, .val one, .val (.ls []), .val one', s4, s5', s6', .nil], ?_, rfl, ?_⟩
      · rcases m3 with ⟨_, h⟩ | h
        · exact h
        · cases one' <;> first | (cases h; done) | exact h
      · rw [ss_nx back0]
        simp_arith []
    · unfold vok0 at hv
      rw [Bool.and_eq_true, decide_eq_true_eq] at hv
      have hf : flat one' = true := by
        rcases m3 with ⟨h, _⟩ | h
        · cases h
        · exact h
      have lA := cut_le ds none (some a)
      have lB := cut_le ds (some (a + 1)) none
      refine ⟨.tup (cutD ds none (some a) ++ [one'] ++ cutD ds (some (a + 1)) none), [.io S3, .val (.tup ds), .val (.ls [.tup [.tup ds, .int a]]), .val (.tup (cutD ds none (some a) ++ [one'] ++ cutD ds (some (a + 1)) none)), s4, .val (.int a), s6', .val (.tup ds)], ?_, ?_, ?_⟩
      rotate_left 2
      · rw [ss_nx (back1 m2 hv.1)]
        simp_arith []
      · unfold vok
        rw [Bool.and_eq_true, decide_eq_true_eq]
        refine ⟨by simp only [List.length_append, List.length_singleton]; omega, ?_⟩
        simp only [List.all_append, cut_flat hv.2, List.all_cons, List.all_nil, hf, Bool.and_self]
      · rfl
  obtain ⟨v', e, f1, f2, f3⟩ := fin
  refine ⟨v', S3, m1, f1, ?_⟩
  rw [call_to (d := b84d25) rfl]
  simp only [b84d25]
  rw [r_run]
  simp only [argS_t, argS_f, argS_nil, bindO_some]
  have : ([Slot.io S, Slot.val v] ++ List.replicate (([("stream" : Str), "value", "way", "one", "turn", "at", "odd", "whole"] : List Str).length - [Slot.io S, Slot.val v].length) Slot.nil) = [.io S, .val v, .nil, .nil, .nil, .nil, .nil, .nil] := rfl
  rw [this, f3]
  simp only [bindO_some, f2]
end
end K84

-- K84P12
set_option maxHeartbeats 8000000
namespace K84
open PySem Pi
def lawA : CS := (.asg (.nm 1) (.call 16 (.cons (.var 0) .nil) []))
def lB1 : CS := (.asg (.nm 3) (.lst (.cons (.call 26 (.cons (.io 1) (.cons (.cst (.int (14))) .nil)) []) (.cons (.call 26 (.cons (.io 1) (.cons (.cst (.int (14))) .nil)) []) .nil))))
def lB2 : CS := (.ife (.cmp .eq (.call 17 (.cons (.io 1) (.cons (.cst (.int (2))) .nil)) []) (.cst (.int (0)))) (.cons (.asg (.nm 4) (.call 18 (.cons (.io 1) (.cons (.lst (.cons (.cst (.int (2))) (.cons (.cst (.int (3))) (.cons (.cst (.int (4))) (.cons (.cst (.int (6))) .nil))))) .nil)) [])) (.cons (.setix 3 (.cst (.int (0))) (.lst (.cons (.tup (.cons (.var 4) (.cons (.cst (.int (1))) (.cons (.call 17 (.cons (.io 1) (.cons (.cst (.int (9))) .nil)) []) .nil)))) (.cons (.tup (.cons (.bin .mul (.var 4) (.bin .add (.cst (.int (1))) (.call 17 (.cons (.io 1) (.cons (.cst (.int (2))) .nil)) []))) (.cons (.cst (.int (1))) (.cons (.call 17 (.cons (.io 1) (.cons (.cst (.int (9))) .nil)) []) .nil)))) .nil)))) .nil)) .nil)
def lB3 : CS := (.asg (.tp [5, 6]) (.ixv 3 (.cst (.int (0)))))
def lB4 : CS := (.asg (.nm 7) (.call 28 (.cons (.cst (.str "paper")) (.cons (.var 5) (.cons (.var 6) (.cons (.cst .non) .nil)))) []))
def lB5 : CS := (.asg (.nm 8) (.bin .mul (.ixv 5 (.cst (.int (0)))) (.ixv 6 (.cst (.int (0))))))
def lB6 : CS := (.asg (.nm 10) (.cmp .ne (.lc (.var 9) (.nm 9) (.rg1 (.var 8)) (.and (.cmp .gt (.call 27 (.cons (.var 5) (.cons (.var 9) .nil)) []) (.cst (.int (0)))) (.cmp .gt (.call 27 (.cons (.var 6) (.cons (.var 9) .nil)) []) (.cst (.int (0))))) [9]) (.lst .nil)))
def lB7 : CS := (.ife (.or (.not (.call 30 (.cons (.var 5) (.cons (.var 6) (.cons (.var 7) .nil))) [])) (.cmp .ne (.cmp .eq (.ixv 7 (.cst (.int (0)))) (.cst (.str "both"))) (.var 10))) (.cons (.ret (.cst (.bl false))) .nil) .nil)
def lB8 : CS := (.asg (.nm 11) (.lst (.cons (.var 7) (.cons (.rev (.var 7)) (.cons (.bi .list (.cons (.var 7) .nil)) (.cons (.tup (.cons (.cst (.str "never")) (.cons (.cst (.int (1))) .nil))) (.cons (.tup (.cons (.cst (.str "never")) (.cons (.ixv 5 (.cst (.int (0)))) .nil))) (.cons (.tup (.cons (.cst (.str "never")) (.cons (.call 22 (.cons (.ixv 5 (.cst (.int (0)))) (.cons (.ixv 6 (.cst (.int (0)))) .nil)) []) .nil))) (.cons (.tup (.cons (.cst (.str "never")) (.cons (.neg (.cst (.int (1)))) .nil))) (.cons (.tup (.cons (.cst (.str "never")) (.cons (.cst (.int (0))) .nil))) (.cons (.tup (.cons (.cst (.str "never")) (.cons (.cst (.bl true)) .nil))) .nil)))))))))))
def lB9 : CS := (.asg (.nm 9) (.bin .sub (.call 17 (.cons (.io 1) (.cons (.cst (.int (40))) .nil)) []) (.cst (.int (20)))))
def lB10 : CS := (.asg (.nm 12) (.lc (.bin .fdiv (.bin .sub (.bin .mul (.ixv 17 (.cst (.int (1)))) (.var 9)) (.ixv 17 (.cst (.int (2))))) (.ixv 17 (.cst (.int (0))))) (.nm 17) (.sq (.tup (.cons (.var 5) (.cons (.var 6) .nil)))) (.cst (.bl true)) [17]))
def lB11 : CS := (.fr (.nm 13) (.rg1 (.cst (.int (5)))) (.cons (.app 11 (.tup (.cons (.cst (.str "both")) (.cons (.var 9) (.cons (.bin .sub (.bin .add (.ixv 12 (.cst (.int (0)))) (.call 17 (.cons (.io 1) (.cons (.cst (.int (3))) .nil)) [])) (.cst (.int (1)))) (.cons (.bin .sub (.bin .add (.ixv 12 (.cst (.int (1)))) (.call 17 (.cons (.io 1) (.cons (.cst (.int (3))) .nil)) [])) (.cst (.int (1)))) .nil)))))) .nil))
def lB12 : CS := (.ife (.cmp .eq (.ixv 7 (.cst (.int (0)))) (.cst (.str "both"))) (.cons (.ext 11 (.lst (.cons (.bin .add (.bin .add (.slv 7 (.cst .non) (.cst (.int (1)))) (.tup (.cons (.bin .add (.ixv 7 (.cst (.int (1)))) (.cst (.int (1)))) .nil))) (.slv 7 (.cst (.int (2))) (.cst .non))) (.cons (.bin .add (.slv 7 (.cst .non) (.cst (.int (2)))) (.tup (.cons (.ixv 7 (.cst (.int (3)))) (.cons (.ixv 7 (.cst (.int (2)))) .nil)))) (.cons (.slv 7 (.cst .non) (.cst (.int (3)))) .nil))))) .nil) .nil)
def lB13 : CS := (.ext 11 (.lc (.call 25 (.cons (.io 1) (.cons (.call 32 (.cons (.io 1) (.cons (.io 11) .nil)) []) .nil)) []) (.nm 13) (.rg1 (.cst (.int (4)))) (.cst (.bl true)) [13]))
def lB14 : CS := (.fr (.nm 14) (.sq (.var 11)) (.cons (.fr (.tp [15, 16]) (.sq (.var 3)) (.cons (.ife (.not (.call 20 (.cons (.call 28 (.cons (.cst (.str "judge")) (.cons (.var 15) (.cons (.var 16) (.cons (.var 14) .nil)))) []) (.cons (.call 30 (.cons (.var 15) (.cons (.var 16) (.cons (.var 14) .nil))) []) .nil)) [])) (.cons (.ret (.cst (.bl false))) .nil) .nil) .nil)) .nil))
def lawBody : CSs := (.cons lB1 (.cons lB2 (.cons lB3 (.cons lB4 (.cons lB5 (.cons lB6 (.cons lB7 (.cons lB8 (.cons lB9 (.cons lB10 (.cons lB11 (.cons lB12 (.cons lB13 (.cons lB14 .nil))))))))))))))
theorem law_is : b84law = (.cons lawA (.cons (.fr (.nm 2) (.rg1 (.cst (.int (4)))) lawBody) (.cons (.ret (.cst (.bl true))) .nil))) := rfl

abbrev Wd := Int × Int × Int
def wd (w : Wd) : D := W w.1 w.2.1 w.2.2
def GWt (w : Wd) : Prop := GW w.1 w.2.1 w.2.2
def pd (p : Wd × Wd) : D := .ls [wd p.1, wd p.2]
def GP (p : Wd × Wd) : Prop := GWt p.1 ∧ GWt p.2
section
variable {L n : Nat} {scr : D}
theorem b1 {S : List D} {a2 a3 : Slot} {r : List Slot} (hS : Strm S) (h3 : nio a3 = true) : ∃ (P0 P1 : Wd × Wd) (S' : List D), GP P0 ∧ GP P1 ∧ Strm S' ∧
    evalS (C L (n+4)) L lB1 (.val scr :: .own S :: a2 :: a3 :: r) = some (.nx (.val scr :: .own S' :: a2 :: .own [pd P0, pd P1] :: r)) := by
  obtain ⟨p, q, c, p', q', c', S1, g1, g2, s1, e1⟩ := s_pair (L := L) (n := n) hS
  obtain ⟨t, u, d, t', u', d', S2, k1, k2, s2, e2⟩ := s_pair (L := L) (n := n) s1
  refine ⟨((p, q, c), (p', q', c')), ((t, u, d), (t', u', d')), S2, ⟨g1, g2⟩, ⟨k1, k2⟩, s2, ?_⟩
  unfold lB1
  simp_arith [e1, e2, h3, pd, wd]
theorem ix20 : L2.ixN 2 0 = some 0 := rfl
theorem b2 {S : List D} {a2 a4 : Slot} {r : List Slot} {P0 P1 : Wd × Wd} (hS : Strm S) (h4 : nio a4 = true) (g0 : GP P0) (g1 : GP P1) : ∃ (P0' : Wd × Wd) (S' : List D) (a4' : Slot), GP P0' ∧ Strm S' ∧ nio a4' = true ∧
    evalS (C L (n+4)) L lB2 (.val scr :: .own S :: a2 :: .own [pd P0, pd P1] :: a4 :: r) = some (.nx (.val scr :: .own S' :: a2 :: .own [pd P0', pd P1] :: a4' :: r)) := by
  obtain ⟨x, S1, x1, x2, x3, x4⟩ := s_next (L := L) (n := n + 3) (many := 2) hS (by omega) (by omega)
  by_cases hx : x = 0
  · subst hx
    obtain ⟨y, S2, y1, y2, y3⟩ := s_pick (L := L) (n := n + 2) (ds := [.int 2, .int 3, .int 4, .int 6]) x2 (by simp) (by simp)
    obtain ⟨c, S3, c1, c2, c3, c4⟩ := s_next (L := L) (n := n + 3) (many := 9) y2 (by omega) (by omega)
    obtain ⟨z, S4, z1, z2, z3, z4⟩ := s_next (L := L) (n := n + 3) (many := 2) c2 (by omega) (by omega)
    obtain ⟨d, S5, d1, d2, d3, d4⟩ := s_next (L := L) (n := n + 3) (many := 9) z2 (by omega) (by omega)
    have hy : ∃ k : Int, y = .int k ∧ 2 ≤ k ∧ k ≤ 6 := by
      simp only [List.mem_cons, List.not_mem_nil, or_false] at y3
      rcases y3 with rfl | rfl | rfl | rfl <;> exact ⟨_, rfl, by omega, by omega⟩
    obtain ⟨k, rfl, k1, k2⟩ := hy
    have hm : Pi.MulOk k (1 + z) := mulS (by omega)
    have hz : z = 0 ∨ z = 1 := by omega
    have hkz : 2 ≤ k * (1 + z) ∧ k * (1 + z) ≤ 12 := by rcases hz with rfl | rfl <;> omega
    refine ⟨((k, 1, c), (k * (1 + z), 1, d)), S5, .val (.int k), ⟨⟨by show 1 ≤ k; omega, by show k ≤ 14; omega, by show (1 : Int) ≤ 1; omega, by show (1 : Int) ≤ 14; omega, Int.gcd_one_right k, by show -100 ≤ c; omega, by show c ≤ 100; omega⟩, ⟨by show 1 ≤ k * (1 + z); omega, by show k * (1 + z) ≤ 14; omega, by show (1 : Int) ≤ 1; omega, by show (1 : Int) ≤ 14; omega, Int.gcd_one_right _, by show -100 ≤ d; omega, by show d ≤ 100; omega⟩⟩, d2, rfl, ?_⟩
    unfold lB2
    simp_arith [x1, y1, c1, z1, d1, h4, decide_eq_true hm, ix20, pd, wd]
  · have hx' : (x == 0) = false := by simpa using hx
    refine ⟨P0, S1, a4, g0, x2, h4, ?_⟩
    unfold lB2
    simp_arith [x1, hx']
theorem b3 {S : List D} {a2 a4 a5 a6 : Slot} {r : List Slot} {P0 P1 : Wd × Wd} (h5 : nio a5 = true) (h6 : nio a6 = true) :
    evalS (C L n) L lB3 (.val scr :: .own S :: a2 :: .own [pd P0, pd P1] :: a4 :: a5 :: a6 :: r) = some (.nx (.val scr :: .own S :: a2 :: .own [pd P0, pd P1] :: a4 :: .val (wd P0.1) :: .val (wd P0.2) :: r)) := by
  unfold lB3
  simp_arith [h5, h6, pd]
def Told (P : Wd × Wd) (told : D) : Prop :=
  (∃ g : Int, 1 ≤ g ∧ g ≤ 14 ∧ g ∣ P.1.1 ∧ g ∣ P.2.1 ∧ firstR (comR P.1.2.1 P.1.2.2 P.2.2.1 P.2.2.2 g) (restsTo g) = none ∧ told = .tup [.str "never", .int g]) ∨
  (∃ d e f : Int, 0 ≤ d ∧ d ≤ 300 ∧ hit P.1.1 P.1.2.1 P.1.2.2 d = true ∧ hit P.2.1 P.2.2.1 P.2.2.2 d = true ∧ e = -((P.1.2.2 - P.1.2.1 * d) / P.1.1) ∧ f = -((P.2.2.2 - P.2.2.1 * d) / P.2.1) ∧ told = .tup [.str "both", .int d, .int e, .int f])
theorem b4 {S : List D} {a2 a4 a7 : Slot} {r : List Slot} {P0 P1 : Wd × Wd} (g0 : GP P0) (h7 : nio a7 = true) (hL : 20 < L) : ∃ told : D, Told P0 told ∧
    evalS (C L (n+8)) L lB4 (.val scr :: .own S :: a2 :: .own [pd P0, pd P1] :: a4 :: .val (wd P0.1) :: .val (wd P0.2) :: a7 :: r) = some (.nx (.val scr :: .own S :: a2 :: .own [pd P0, pd P1] :: a4 :: .val (wd P0.1) :: .val (wd P0.2) :: .val told :: r)) := by
  obtain ⟨⟨p, q, c⟩, ⟨p', q', c'⟩⟩ := P0
  have G : GW p q c := g0.1
  have G' : GW p' q' c' := g0.2
  have g1 := G.p1; have g2 := G.p2; have k1 := G'.p1
  rcases s_both_paper (L := L) (n := n + 1) G G' hL with ⟨h1, h2⟩ | ⟨d, d0, d1, d2, d3, h2⟩
  · have ht := s_told_paper (L := L) (n := n + 6) h2
    have hm : 0 < (Int.gcd p p' : Int) := by
      have : Int.gcd p p' ≠ 0 := by rw [Ne, Int.gcd_eq_zero_iff]; omega
      omega
    have hle : (Int.gcd p p' : Int) ≤ p := Int.le_of_dvd (by omega) (Int.gcd_dvd_left p p')
    refine ⟨_, .inl ⟨Int.gcd p p', by omega, by omega, Int.gcd_dvd_left p p', Int.gcd_dvd_right p p', h1, rfl⟩, ?_⟩
    unfold lB4
    simp only [wd] at *
    simp_arith [ht, h7]
  · have ht := s_told_paper (L := L) (n := n + 6) h2
    refine ⟨_, .inr ⟨d, _, _, d0, d1, d2, d3, rfl, rfl, rfl⟩, ?_⟩
    unfold lB4
    simp only [wd] at *
    simp_arith [ht, h7]
theorem b5 {S : List D} {a2 a4 a8 : Slot} {r : List Slot} {P0 P1 : Wd × Wd} {told : D} (g0 : GP P0) (h8 : nio a8 = true) :
    evalS (C L n) L lB5 (.val scr :: .own S :: a2 :: .own [pd P0, pd P1] :: a4 :: .val (wd P0.1) :: .val (wd P0.2) :: .val told :: a8 :: r) = some (.nx (.val scr :: .own S :: a2 :: .own [pd P0, pd P1] :: a4 :: .val (wd P0.1) :: .val (wd P0.2) :: .val told :: .val (.int (P0.1.1 * P0.2.1)) :: r)) := by
  obtain ⟨⟨p, q, c⟩, ⟨p', q', c'⟩⟩ := P0
  have G : GW p q c := g0.1
  have g1 := G.p1; have g2 := G.p2
  have hm : Pi.MulOk p p' := mulS (by omega)
  unfold lB5
  simp only [wd] at *
  simp_arith [decide_eq_true hm, h8]
def gBoth (P : Wd × Wd) : D → Option D := fun x => match x with
  | .int d => if (hit P.1.1 P.1.2.1 P.1.2.2 d && hit P.2.1 P.2.2.1 P.2.2.2 d) = true then some (.int d) else none
  | _ => none
def dueB (P : Wd × Wd) : Bool := !((rangeD 0 (P.1.1 * P.2.1).toNat).filterMap (gBoth P)).isEmpty
theorem gBoth_flat {P : Wd × Wd} {xs : List D} (h : ∀ x ∈ xs, flat x = true) : (xs.filterMap (gBoth P)).all flat = true := by
  rw [List.all_eq_true]
  intro y hy
  obtain ⟨x, hx, e⟩ := List.mem_filterMap.mp hy
  have hf := h x hx
  cases x <;> first | (simp [gBoth] at e; done) | skip
  unfold gBoth at e
  simp only at e
  split at e
  · cases e; exact hf
  · cases e
theorem b6 {S : List D} {a2 a4 a9 a10 : Slot} {r : List Slot} {P0 P1 : Wd × Wd} {told : D} (g0 : GP P0) (h9 : nio a9 = true) (h10 : nio a10 = true) :
    evalS (C L (n+2)) L lB6 (.val scr :: .own S :: a2 :: .own [pd P0, pd P1] :: a4 :: .val (wd P0.1) :: .val (wd P0.2) :: .val told :: .val (.int (P0.1.1 * P0.2.1)) :: a9 :: a10 :: r) = some (.nx (.val scr :: .own S :: a2 :: .own [pd P0, pd P1] :: a4 :: .val (wd P0.1) :: .val (wd P0.2) :: .val told :: .val (.int (P0.1.1 * P0.2.1)) :: a9 :: .val (.bl (dueB P0)) :: r)) := by
  obtain ⟨⟨p, q, c⟩, ⟨p', q', c'⟩⟩ := P0
  have G : GW p q c := g0.1
  have G' : GW p' q' c' := g0.2
  have g1 := G.p1; have g2 := G.p2; have k1 := G'.p1; have k2 := G'.p2
  have b0 : 0 ≤ p * p' := Int.mul_nonneg (by omega) (by omega)
  have b1 : p * p' ≤ 14 * 14 := Int.mul_le_mul g2 k2 (by omega) (by omega)
  have hdo : doC (C L (n+2)) (.var 9) (.nm 9) (.and (.cmp .gt (.call 27 (.cons (.var 5) (.cons (.var 9) .nil)) []) (.cst (.int (0)))) (.cmp .gt (.call 27 (.cons (.var 6) (.cons (.var 9) .nil)) []) (.cst (.int (0))))) [9] (rangeD 0 (p * p').toNat)
      (.val scr :: .own S :: a2 :: .own [pd ((p, q, c), (p', q', c')), pd P1] :: a4 :: .val (W p q c) :: .val (W p' q' c') :: .val told :: .val (.int (p * p')) :: .nil :: a10 :: r) [] =
      some ([] ++ (rangeD 0 (p * p').toNat).filterMap (gBoth ((p, q, c), (p', q', c'))), (.val scr :: .own S :: a2 :: .own [pd ((p, q, c), (p', q', c')), pd P1] :: a4 :: .val (W p q c) :: .val (W p' q' c') :: .val told :: .val (.int (p * p')) :: .nil :: a10 :: r)) := by
    apply doC_pure
    intro x hx
    obtain ⟨d, rfl, d0, d1⟩ := rangeD_mem.mp hx
    obtain ⟨k, e1, e2⟩ := s_events_on (L := L) (n := n) (d := d) G (by omega) (by omega)
    obtain ⟨k', e1', e2'⟩ := s_events_on (L := L) (n := n) (d := d) G' (by omega) (by omega)
    unfold stepC gBoth
    simp only
    cases hh : hit p q c d <;> cases hh' : hit p' q' c' d <;> (rw [hh] at e2; rw [hh'] at e2'; simp_arith [e1, e2, e1', e2'])
  have hfl := gBoth_flat (P := ((p, q, c), (p', q', c'))) (xs := rangeD 0 (p * p').toNat) fun x hx => by
    obtain ⟨d, rfl, d0, d1⟩ := rangeD_mem.mp hx
    exact decide_eq_true (by omega)
  have hne := ne_nil hfl
  have hs : decide (Small (p * p') ∧ p * p' ≤ 16777216) = true := decide_eq_true ⟨⟨by omega, by omega⟩, by omega⟩
  unfold lB6 dueB
  simp only [wd] at *
  simp_arith [hs, hdo, hne, h9, h10]
end
end K84

-- K84P13
set_option maxHeartbeats 8000000
namespace K84
open PySem Pi
section
variable {L n : Nat} {scr : D}
theorem told_ok {P : Wd × Wd} {told : D} (g0 : GP P) (h : Told P told) : judge P.1.1 P.1.2.1 P.1.2.2 P.2.1 P.2.2.1 P.2.2.2 told = true ∧ vok0 told = true := by
  obtain ⟨⟨p, q, c⟩, ⟨p', q', c'⟩⟩ := P
  have G : GW p q c := g0.1
  have G' : GW p' q' c' := g0.2
  have g1 := G.p1; have g2 := G.p2; have g3 := G.q1; have g4 := G.q2; have g5 := G.c1; have g6 := G.c2
  have k1 := G'.p1; have k2 := G'.p2; have k3 := G'.q1; have k4 := G'.q2; have k5 := G'.c1; have k6 := G'.c2
  rcases h with ⟨g, h1, h2, h3, h4, h5, rfl⟩ | ⟨d, e, f, d0, d1, d2, d3, rfl, rfl, rfl⟩
  · simp only at h3 h4 h5 ⊢
    have e3 : p % g = 0 := Int.emod_eq_zero_of_dvd h3
    have e4 : p' % g = 0 := Int.emod_eq_zero_of_dvd h4
    refine ⟨?_, ?_⟩
    · show ((("never" : Str) == "never") && (decide (1 ≤ g) && ((p % g == 0) && ((p' % g == 0) && (firstR (comR q c q' c' g) (restsTo g)).isNone)))) = true
      rw [decide_eq_true h1, e3, e4, h5]
      decide +kernel
    · unfold vok0
      have : flat0 (.int g) = true := decide_eq_true (by omega)
      have fs : flat0 (.str "never") = true := by decide +kernel
      simp only [List.all_cons, List.all_nil, this, fs, List.length_cons, List.length_nil]
      rfl
  · simp only at d2 d3 ⊢
    have e1 := ev_of (by omega) (by omega) d2
    have e2 := ev_of (by omega) (by omega) d3
    refine ⟨?_, ?_⟩
    · show ((("both" : Str) == "both") && (((p * (-((c - q * d) / p)) + c) / q == d) && ((p' * (-((c' - q' * d) / p')) + c') / q' == d))) = true
      rw [e1, e2]
      simp
    · have bd : ∀ p q c : Int, 1 ≤ p → p ≤ 14 → 1 ≤ q → q ≤ 14 → -100 ≤ c → c ≤ 100 → flat0 (.int (-((c - q * d) / p))) = true := fun p q c h1 h2 h3 h4 h5 h6 => by
        have m1 := Int.mul_le_mul h4 d1 d0 (by omega)
        have m2 := Int.mul_nonneg (show 0 ≤ q by omega) d0
        have z1 : -10000 ≤ (c - q * d) / p := by rw [Int.le_ediv_iff_mul_le (by omega)]; omega
        have z2 : (c - q * d) / p ≤ 10000 := by
          have : (c - q * d) / p < 10001 := by rw [Int.ediv_lt_iff_lt_mul (by omega)]; omega
          omega
        exact decide_eq_true (by omega)
      have f1 := bd p q c g1 g2 g3 g4 g5 g6
      have f2 := bd p' q' c' k1 k2 k3 k4 k5 k6
      have f0 : flat0 (.int d) = true := decide_eq_true (by omega)
      have fs : flat0 (.str "both") = true := by decide +kernel
      unfold vok0
      simp only [List.all_cons, List.all_nil, f0, f1, f2, fs, List.length_cons, List.length_nil]
      rfl
def isBoth : D → Bool
  | .tup (.str s :: _) => s == "both"
  | _ => false
theorem due_eq {P : Wd × Wd} {told : D} (g0 : GP P) (h : Told P told) : dueB P = isBoth told := by
  obtain ⟨⟨p, q, c⟩, ⟨p', q', c'⟩⟩ := P
  have G : GW p q c := g0.1
  have G' : GW p' q' c' := g0.2
  have g1 := G.p1; have k1 := G'.p1
  rcases h with ⟨g, h1, h2, h3, h4, h5, rfl⟩ | ⟨d, e, f, d0, d1, d2, d3, rfl, rfl, rfl⟩
  · simp only at h3 h4 h5
    have hb : isBoth (.tup [.str "never", .int g]) = false := by
      show (("never" : Str) == "both") = false
      decide +kernel
    rw [hb]
    unfold dueB
    rw [Bool.not_eq_false', List.isEmpty_iff, List.filterMap_eq_nil_iff]
    intro x hx
    obtain ⟨d, rfl, d0, d1⟩ := rangeD_mem.mp hx
    unfold gBoth
    simp only
    rw [if_neg]
    intro hh
    rw [Bool.and_eq_true] at hh
    have hd : g ∣ d - d % g := Int.dvd_self_sub_emod
    have r1 := hasR_of (by omega) (by omega) h3 hd hh.1
    have r2 := hasR_of (by omega) (by omega) h4 hd hh.2
    have z0 := Int.emod_nonneg d (show g ≠ 0 by omega)
    have z1 := Int.emod_lt_of_pos d (show 0 < g by omega)
    have := firstR_none h5 (d % g) (by
      unfold restsTo
      exact List.mem_map.mpr ⟨(d % g).toNat, List.mem_range.mpr (by omega), by omega⟩)
    unfold comR at this
    rw [r1, r2] at this
    cases this
  · simp only at d2 d3
    have hb : isBoth (.tup [.str "both", .int d, .int (-((c - q * d) / p)), .int (-((c' - q' * d) / p'))]) = true := by
      show (("both" : Str) == "both") = true
      decide +kernel
    rw [hb]
    unfold dueB
    rw [Bool.not_eq_true', List.isEmpty_eq_false_iff]
    intro hn
    rw [List.filterMap_eq_nil_iff] at hn
    have hpos : 0 < p * p' := Int.mul_pos (by omega) (by omega)
    have z0 := Int.emod_nonneg d (show p * p' ≠ 0 by omega)
    have z1 := Int.emod_lt_of_pos d hpos
    have hd : p * p' ∣ d - d % (p * p') := Int.dvd_self_sub_emod
    have := hn (.int (d % (p * p'))) (rangeD_mem.mpr ⟨_, rfl, z0, by simp only; omega⟩)
    have e1 : hit p q c (d % (p * p')) = true := by
      rw [← hit_mod (d := d) (Int.dvd_trans (Int.dvd_mul_right p p') hd)]; exact d2
    have e2 : hit p' q' c' (d % (p * p')) = true := by
      rw [← hit_mod (p := p') (d := d) (Int.dvd_trans (Int.dvd_mul_left p p') hd)]; exact d3
    unfold gBoth at this
    simp only [e1, e2, Bool.and_self, if_true] at this
    cases this
theorem told_case {P : Wd × Wd} {told : D} (h : Told P told) : ∃ (s : Str) (rest : List D), told = .tup (.str s :: rest) ∧ flat (.str s) = true ∧ isBoth told = (s == "both") := by
  rcases h with ⟨g, h1, h2, h3, h4, h5, rfl⟩ | ⟨d, e, f, d0, d1, d2, d3, rfl, rfl, rfl⟩
  · exact ⟨"never", _, rfl, fl_never, rfl⟩
  · exact ⟨"both", _, rfl, fl_both, rfl⟩
theorem b7 {S : List D} {a2 a4 a8 a9 : Slot} {r : List Slot} {P0 P1 : Wd × Wd} {told : D} (g0 : GP P0) (h : Told P0 told) (hL : 20 < L) :
    evalS (C L (n+6)) L lB7 (.val scr :: .own S :: a2 :: .own [pd P0, pd P1] :: a4 :: .val (wd P0.1) :: .val (wd P0.2) :: .val told :: a8 :: a9 :: .val (.bl (dueB P0)) :: r) = some (.nx (.val scr :: .own S :: a2 :: .own [pd P0, pd P1] :: a4 :: .val (wd P0.1) :: .val (wd P0.2) :: .val told :: a8 :: a9 :: .val (.bl (dueB P0)) :: r)) := by
  obtain ⟨j1, j2⟩ := told_ok g0 h
  have hd := due_eq g0 h
  obtain ⟨s, rest, rfl, fs, hb⟩ := told_case h
  obtain ⟨⟨p, q, c⟩, ⟨p', q', c'⟩⟩ := P0
  have G : GW p q c := g0.1
  have G' : GW p' q' c' := g0.2
  have hi := s_is_one (L := L) (n := n) G G' (vok_of0 j2) hL
  simp only at j1
  rw [j1] at hi
  rw [hd, hb]
  unfold lB7
  simp only [wd] at *
  cases e : (s == ("both" : Str)) <;> simp_arith [hi, str_eq fs fl_both, e]
end
end K84

-- K84P14
set_option maxHeartbeats 8000000
namespace K84
open PySem Pi
section
variable {L n : Nat} {scr : D}
theorem nev0 {x : D} (h : flat0 x = true) : vok0 (.tup [.str "never", x]) = true := by
  have fs : flat0 (.str "never") = true := by decide +kernel
  unfold vok0
  simp only [List.all_cons, List.all_nil, h, fs, List.length_cons, List.length_nil]
  rfl
theorem b8 {S : List D} {a2 a4 a8 a9 a10 a11 : Slot} {r : List Slot} {P0 P1 : Wd × Wd} {told : D} (g0 : GP P0) (h : Told P0 told) (h11 : nio a11 = true) : ∃ vs : List D, vs ≠ [] ∧ vs.length ≤ 20 ∧ (∀ v ∈ vs, vok0 v = true) ∧
    evalS (C L (n+1)) L lB8 (.val scr :: .own S :: a2 :: .own [pd P0, pd P1] :: a4 :: .val (wd P0.1) :: .val (wd P0.2) :: .val told :: a8 :: a9 :: a10 :: a11 :: r) = some (.nx (.val scr :: .own S :: a2 :: .own [pd P0, pd P1] :: a4 :: .val (wd P0.1) :: .val (wd P0.2) :: .val told :: a8 :: a9 :: a10 :: .own vs :: r)) := by
  obtain ⟨_, j2⟩ := told_ok g0 h
  obtain ⟨s, rest, rfl, fs, _⟩ := told_case h
  obtain ⟨⟨p, q, c⟩, ⟨p', q', c'⟩⟩ := P0
  have G : GW p q c := g0.1
  have G' : GW p' q' c' := g0.2
  have g1 := G.p1; have g2 := G.p2; have k1 := G'.p1; have k2 := G'.p2
  have hg := s_divisor (L := L) (n := n) (a := p) (b := p') (by omega) (by omega)
  have hle : (Int.gcd p p' : Int) ≤ p := Int.le_of_dvd (by omega) (Int.gcd_dvd_left p p')
  have j3 := j2
  unfold vok0 at j3
  rw [Bool.and_eq_true, decide_eq_true_eq] at j3
  refine ⟨[.tup (.str s :: rest), .tup (.str s :: rest).reverse, .ls (.str s :: rest), .tup [.str "never", .int 1], .tup [.str "never", .int p], .tup [.str "never", .int (Int.gcd p p')], .tup [.str "never", .int (-1)], .tup [.str "never", .int 0], .tup [.str "never", .bl true]], by simp, by simp, ?_, ?_⟩
  · intro v hv
    simp only [List.mem_cons, List.not_mem_nil, or_false] at hv
    rcases hv with rfl | rfl | rfl | rfl | rfl | rfl | rfl | rfl | rfl
    · exact j2
    · unfold vok0
      rw [Bool.and_eq_true, decide_eq_true_eq]
      exact ⟨by rw [List.length_reverse]; exact j3.1, by rw [List.all_reverse]; exact j3.2⟩
    · exact j2
    · exact nev0 (by decide)
    · exact nev0 (decide_eq_true (by omega))
    · exact nev0 (decide_eq_true (by omega))
    · exact nev0 (by decide)
    · exact nev0 (by decide)
    · exact nev0 rfl
  · unfold lB8
    simp only [wd] at *
    simp_arith [rev_tup, hg, h11]
theorem b9 {S : List D} {a2 a3 a4 a5 a6 a7 a8 a9 : Slot} {r : List Slot} (hS : Strm S) (h9 : nio a9 = true) : ∃ (S' : List D) (d : Int), Strm S' ∧ -20 ≤ d ∧ d < 20 ∧
    evalS (C L (n+1)) L lB9 (.val scr :: .own S :: a2 :: a3 :: a4 :: a5 :: a6 :: a7 :: a8 :: a9 :: r) = some (.nx (.val scr :: .own S' :: a2 :: a3 :: a4 :: a5 :: a6 :: a7 :: a8 :: .val (.int d) :: r)) := by
  obtain ⟨x, S1, x1, x2, x3, x4⟩ := s_next (L := L) (n := n) (many := 40) hS (by omega) (by omega)
  refine ⟨S1, x - 20, x2, by omega, by omega, ?_⟩
  unfold lB9
  simp_arith [x1, h9]
theorem near_le {p q c d : Int} (G : GW p q c) (h0 : -20 ≤ d) (h1 : d < 20) : -100000 ≤ (q * d - c) / p ∧ (q * d - c) / p ≤ 100000 := by
  have g1 := G.p1; have g2 := G.p2; have g3 := G.q1; have g4 := G.q2; have g5 := G.c1; have g6 := G.c2
  have m1 : q * d ≤ 14 * 20 := by
    by_cases hd : 0 ≤ d
    · exact Int.mul_le_mul g4 (by omega) hd (by omega)
    · have := Int.mul_nonneg (show 0 ≤ q by omega) (show 0 ≤ -d by omega)
      rw [Int.mul_neg] at this; omega
  have m2 : -(14 * 20) ≤ q * d := by
    by_cases hd : 0 ≤ d
    · have := Int.mul_nonneg (show 0 ≤ q by omega) hd; omega
    · have := Int.mul_le_mul g4 (show -d ≤ 20 by omega) (by omega) (by omega)
      rw [Int.mul_neg] at this; omega
  constructor
  · rw [Int.le_ediv_iff_mul_le (by omega)]; omega
  · have : (q * d - c) / p < 100001 := by rw [Int.ediv_lt_iff_lt_mul (by omega)]; omega
    omega
theorem b10 {S vs : List D} {a2 a3 a4 a7 a8 a10 a11 a12 a13 a14 a15 a16 a17 : Slot} {P0 : Wd × Wd} {d : Int} (g0 : GP P0) (d0 : -20 ≤ d) (d1 : d < 20) (h12 : nio a12 = true) (h17 : nio a17 = true) : ∃ x y : Int, -100000 ≤ x ∧ x ≤ 100000 ∧ -100000 ≤ y ∧ y ≤ 100000 ∧
    evalS (C L n) L lB10 [.val scr, .own S, a2, a3, a4, .val (wd P0.1), .val (wd P0.2), a7, a8, .val (.int d), a10, a11, a12, a13, a14, a15, a16, a17] =
      some (.nx [.val scr, .own S, a2, a3, a4, .val (wd P0.1), .val (wd P0.2), a7, a8, .val (.int d), a10, a11, .own [.int x, .int y], a13, a14, a15, a16, a17]) := by
  obtain ⟨⟨p, q, c⟩, ⟨p', q', c'⟩⟩ := P0
  have G : GW p q c := g0.1
  have G' : GW p' q' c' := g0.2
  have g1 := G.p1; have g2 := G.p2; have g3 := G.q1; have g4 := G.q2
  have k1 := G'.p1; have k2 := G'.p2; have k3 := G'.q1; have k4 := G'.q2
  have m1 : Pi.MulOk q d := mulS (by omega)
  have m2 : Pi.MulOk q' d := mulS (by omega)
  have e1 := near_le G d0 d1
  have e2 := near_le G' d0 d1
  refine ⟨(q * d - c) / p, (q' * d - c') / p', e1.1, e1.2, e2.1, e2.2, ?_⟩
  unfold lB10
  simp only [wd] at *
  simp_arith [d_cons, stepC, decide_eq_true m1, decide_eq_true m2, fdiv_int (divOk_of (show 0 < p by omega) (by omega)), fdiv_int (divOk_of (show 0 < p' by omega) (by omega)), h12, h17]
end
end K84

-- K84P15
set_option maxHeartbeats 8000000
namespace K84
open PySem Pi
section
variable {L n : Nat} {scr : D}
def b11B : CSs := (.cons (.app 11 (.tup (.cons (.cst (.str "both")) (.cons (.var 9) (.cons (.bin .sub (.bin .add (.ixv 12 (.cst (.int (0)))) (.call 17 (.cons (.io 1) (.cons (.cst (.int (3))) .nil)) [])) (.cst (.int (1)))) (.cons (.bin .sub (.bin .add (.ixv 12 (.cst (.int (1)))) (.call 17 (.cons (.io 1) (.cons (.cst (.int (3))) .nil)) [])) (.cst (.int (1)))) .nil)))))) .nil)
theorem both0 {d x y : Int} (h1 : -20 ≤ d) (h2 : d < 20) (h3 : -200000 ≤ x) (h4 : x ≤ 200000) (h5 : -200000 ≤ y) (h6 : y ≤ 200000) : vok0 (.tup [.str "both", .int d, .int x, .int y]) = true := by
  have fs : flat0 (.str "both") = true := by decide +kernel
  have f1 : flat0 (.int d) = true := decide_eq_true (by omega)
  have f2 : flat0 (.int x) = true := decide_eq_true (by omega)
  have f3 : flat0 (.int y) = true := decide_eq_true (by omega)
  unfold vok0
  simp only [List.all_cons, List.all_nil, f1, f2, f3, fs, List.length_cons, List.length_nil]
  rfl
theorem b11_loop {a2 a3 a4 a5 a6 a7 a8 a10 a14 a15 a16 a17 : Slot} {d x y : Int} (d0 : -20 ≤ d) (d1 : d < 20) (x0 : -100000 ≤ x) (x1 : x ≤ 100000) (y0 : -100000 ≤ y) (y1 : y ≤ 100000) : ∀ (xs : List D) (S vs : List D) (a13 : Slot), Strm S → nio a13 = true → vs.length + xs.length ≤ 100 → (∀ v ∈ vs, vok0 v = true) → vs ≠ [] →
    ∃ (S' vs' : List D) (a13' : Slot), Strm S' ∧ nio a13' = true ∧ vs'.length ≤ 100 ∧ (∀ v ∈ vs', vok0 v = true) ∧ vs' ≠ [] ∧
    doF (C L (n+1)) L (.nm 13) b11B xs [.val scr, .own S, a2, a3, a4, a5, a6, a7, a8, .val (.int d), a10, .own vs, .own [.int x, .int y], a13, a14, a15, a16, a17] =
      some (.nx [.val scr, .own S', a2, a3, a4, a5, a6, a7, a8, .val (.int d), a10, .own vs', .own [.int x, .int y], a13', a14, a15, a16, a17])
  | [], S, vs, a13, hS, h13, hl, hv, hn => ⟨S, vs, a13, hS, h13, by simpa using hl, hv, hn, rfl⟩
  | z :: xs, S, vs, a13, hS, h13, hl, hv, hn => by
    obtain ⟨u, S1, u1, u2, u3, u4⟩ := s_next (L := L) (n := n) (many := 3) hS (by omega) (by omega)
    obtain ⟨w, S2, w1, w2, w3, w4⟩ := s_next (L := L) (n := n) (many := 3) u2 (by omega) (by omega)
    rw [List.length_cons] at hl
    obtain ⟨S', vs', a13', q1, q2, q3, q4, q5, q6⟩ := b11_loop d0 d1 x0 x1 y0 y1 xs S2 (vs ++ [.tup [.str "both", .int d, .int (x + u - 1), .int (y + w - 1)]]) (.val z) w2 rfl (by simp; omega) (fun v hv' => by
      rcases List.mem_append.mp hv' with h | h
      · exact hv v h
      · rw [List.mem_singleton] at h
        rw [h]
        exact both0 d0 d1 (by omega) (by omega) (by omega) (by omega)) (by simp)
    refine ⟨S', vs', a13', q1, q2, q3, q4, q5, ?_⟩
    rw [← q6]
    apply f_step
    have hlen : decide (vs.length < 16777216) = true := decide_eq_true (by omega)
    unfold b11B
    simp_arith [h13, u1, w1, hlen]
theorem b11 {S vs : List D} {a2 a3 a4 a5 a6 a7 a8 a10 a13 a14 a15 a16 a17 : Slot} {d x y : Int} (d0 : -20 ≤ d) (d1 : d < 20) (x0 : -100000 ≤ x) (x1 : x ≤ 100000) (y0 : -100000 ≤ y) (y1 : y ≤ 100000) (hS : Strm S) (h13 : nio a13 = true) (hl : vs.length ≤ 20) (hv : ∀ v ∈ vs, vok0 v = true) (hn : vs ≠ []) :
    ∃ (S' vs' : List D) (a13' : Slot), Strm S' ∧ nio a13' = true ∧ vs'.length ≤ 100 ∧ (∀ v ∈ vs', vok0 v = true) ∧ vs' ≠ [] ∧
    evalS (C L (n+1)) L lB11 [.val scr, .own S, a2, a3, a4, a5, a6, a7, a8, .val (.int d), a10, .own vs, .own [.int x, .int y], a13, a14, a15, a16, a17] =
      some (.nx [.val scr, .own S', a2, a3, a4, a5, a6, a7, a8, .val (.int d), a10, .own vs', .own [.int x, .int y], a13', a14, a15, a16, a17]) := by
  have hr : (rangeD 0 (5 : Int).toNat).length = 5 := by rfl
  obtain ⟨S', vs', a13', q1, q2, q3, q4, q5, q6⟩ := b11_loop (L := L) (n := n) (scr := scr) (a2 := a2) (a3 := a3) (a4 := a4) (a5 := a5) (a6 := a6) (a7 := a7) (a8 := a8) (a10 := a10) (a14 := a14) (a15 := a15) (a16 := a16) (a17 := a17) d0 d1 x0 x1 y0 y1 (rangeD 0 (5 : Int).toNat) S vs a13 hS h13 (by rw [hr]; omega) hv hn
  refine ⟨S', vs', a13', q1, q2, q3, q4, q5, ?_⟩
  have hs : decide (Small (5 : Int)) = true := by decide
  have e : lB11 = .fr (.nm 13) (.rg1 (.cst (.int (5)))) b11B := rfl
  rw [e]
  simp_arith [hs, q6]
end
end K84

-- K84P16
set_option maxHeartbeats 8000000
namespace K84
open PySem Pi
section
variable {L n : Nat} {scr : D}
theorem c41 (a b c d : D) : cutD [a, b, c, d] none (some 1) = [a] := rfl
theorem c42 (a b c d : D) : cutD [a, b, c, d] none (some 2) = [a, b] := rfl
theorem c43 (a b c d : D) : cutD [a, b, c, d] none (some 3) = [a, b, c] := rfl
theorem c44 (a b c d : D) : cutD [a, b, c, d] (some 2) none = [c, d] := rfl
theorem b12 {S vs : List D} {a2 a3 a4 a5 a6 a8 a9 a10 : Slot} {r : List Slot} {P0 : Wd × Wd} {told : D} (g0 : GP P0) (h : Told P0 told) (hl : vs.length ≤ 100) (hv : ∀ v ∈ vs, vok0 v = true) (hn : vs ≠ []) :
    ∃ (vs' : List D), vs'.length ≤ 110 ∧ (∀ v ∈ vs', vok0 v = true) ∧ vs' ≠ [] ∧
    evalS (C L n) L lB12 (.val scr :: .own S :: a2 :: a3 :: a4 :: a5 :: a6 :: .val told :: a8 :: a9 :: a10 :: .own vs :: r) = some (.nx (.val scr :: .own S :: a2 :: a3 :: a4 :: a5 :: a6 :: .val told :: a8 :: a9 :: a10 :: .own vs' :: r)) := by
  obtain ⟨_, j2⟩ := told_ok g0 h
  rcases h with ⟨g, h1, h2, h3, h4, h5, rfl⟩ | ⟨d, e, f, d0, d1, d2, d3, he, hf, rfl⟩
  · refine ⟨vs, by omega, hv, hn, ?_⟩
    have e1 : (("never" : Str) == "both") = false := by decide +kernel
    unfold lB12
    simp_arith [str_eq fl_never fl_both, e1]
  · clear he hf
    unfold vok0 at j2
    simp only [List.all_cons, List.all_nil, Bool.and_true, Bool.and_eq_true] at j2
    obtain ⟨_, fs, fd, fe, ff⟩ := j2
    have fd' : flat0 (.int (d + 1)) = true := decide_eq_true (by omega)
    refine ⟨vs ++ [.tup [.str "both", .int (d + 1), .int e, .int f], .tup [.str "both", .int d, .int f, .int e], .tup [.str "both", .int d, .int e]], by simp; omega, fun v hv' => ?_, by simp [hn], ?_⟩
    · rcases List.mem_append.mp hv' with h | h
      · exact hv v h
      · simp only [List.mem_cons, List.not_mem_nil, or_false] at h
        rcases h with rfl | rfl | rfl <;> (unfold vok0; simp only [List.all_cons, List.all_nil, fs, fd, fe, ff, fd', List.length_cons, List.length_nil]; rfl)
    · have e1 : (("both" : Str) == "both") = true := by decide +kernel
      have hlen : decide (vs.length ≤ 16777213) = true := decide_eq_true (by omega)
      unfold lB12
      simp_arith [str_eq fl_both fl_both, e1, sl_tup part_non part_int, sl_tup part_int part_non, c41, c42, c43, c44, add_tup, hlen]
end
end K84

-- K84P17
set_option maxHeartbeats 8000000
namespace K84
open PySem Pi
section
variable {L n : Nat} {scr : D}
theorem s_pick_io {S ds : List D} (hS : Strm S) (h0 : ds ≠ []) (h1 : ds.length < 1000) : ∃ (x : D) (S' : List D), C L (n+2) 32 [.own S, .own ds] = some (.val x, [S', ds]) ∧ Strm S' ∧ x ∈ ds := by
  have hpos : 0 < ds.length := List.length_pos_iff.mpr h0
  obtain ⟨r, S', e1, e2, e3, e4⟩ := s_next (L := L) (n := n) (many := (ds.length : Int)) hS (by omega) (by omega)
  have hlt : r.toNat < ds.length := by omega
  have hx : L2.atI ds r = some ds[r.toNat] := by
    have := at_nat (ds := ds) (k := r.toNat) (x := ds[r.toNat]) (List.getElem?_eq_getElem hlt)
    rwa [show ((r.toNat : Nat) : Int) = r by omega] at this
  refine ⟨ds[r.toNat], S', ?_, e2, List.getElem_mem _⟩
  rw [call_to (d := b84d32) rfl]
  simp only [b84d32, b84_law_pick_io]
  simp_arith [e1, hx]
theorem b13_loop {vs : List D} {a2 a3 a4 a5 a6 a7 a8 a9 a10 a12 a14 a15 a16 a17 : Slot} (hl : vs.length ≤ 110) (hv : ∀ v ∈ vs, vok0 v = true) (hn : vs ≠ []) : ∀ (xs : List D) (S acc : List D), Strm S → (∀ v ∈ acc, vok v = true) →
    ∃ (S' acc' : List D), Strm S' ∧ (∀ v ∈ acc', vok v = true) ∧ acc'.length ≤ acc.length + xs.length ∧
    doC (C L (n+3)) (.call 25 (.cons (.io 1) (.cons (.call 32 (.cons (.io 1) (.cons (.io 11) .nil)) []) .nil)) []) (.nm 13) (.cst (.bl true)) [13] xs [.val scr, .own S, a2, a3, a4, a5, a6, a7, a8, a9, a10, .own vs, a12, .nil, a14, a15, a16, a17] acc =
      some (acc', [.val scr, .own S', a2, a3, a4, a5, a6, a7, a8, a9, a10, .own vs, a12, .nil, a14, a15, a16, a17])
  | [], S, acc, hS, ha => ⟨S, acc, hS, ha, by simp, rfl⟩
  | z :: xs, S, acc, hS, ha => by
    obtain ⟨x, S1, x1, x2, x3⟩ := s_pick_io (L := L) (n := n + 1) (ds := vs) hS hn (by omega)
    obtain ⟨v', S2, v1, v2, v3⟩ := s_spoiled (L := L) (n := n) x2 (hv x x3)
    obtain ⟨S', acc', q1, q2, q3, q4⟩ := b13_loop hl hv hn xs S2 (acc ++ [v']) v1 (fun v h => by
      rcases List.mem_append.mp h with h | h
      · exact ha v h
      · rw [List.mem_singleton] at h; rw [h]; exact v2)
    refine ⟨S', acc', q1, q2, by rw [List.length_append, List.length_singleton] at q3; rw [List.length_cons]; omega, ?_⟩
    rw [← q4]
    simp_arith [d_cons, stepC, x1, v3]
theorem b13 {S vs : List D} {a2 a3 a4 a5 a6 a7 a8 a9 a10 a12 a13 a14 a15 a16 a17 : Slot} (hS : Strm S) (h13 : nio a13 = true) (hl : vs.length ≤ 110) (hv : ∀ v ∈ vs, vok0 v = true) (hn : vs ≠ []) :
    ∃ (S' vs' : List D), Strm S' ∧ (∀ v ∈ vs', vok v = true) ∧ vs'.length ≤ 200 ∧
    evalS (C L (n+3)) L lB13 [.val scr, .own S, a2, a3, a4, a5, a6, a7, a8, a9, a10, .own vs, a12, a13, a14, a15, a16, a17] =
      some (.nx [.val scr, .own S', a2, a3, a4, a5, a6, a7, a8, a9, a10, .own vs', a12, a13, a14, a15, a16, a17]) := by
  have hr : (rangeD 0 (4 : Int).toNat).length = 4 := by rfl
  obtain ⟨S', acc, q1, q2, q3, q4⟩ := b13_loop (L := L) (n := n) (scr := scr) (a2 := a2) (a3 := a3) (a4 := a4) (a5 := a5) (a6 := a6) (a7 := a7) (a8 := a8) (a9 := a9) (a10 := a10) (a12 := a12) (a14 := a14) (a15 := a15) (a16 := a16) (a17 := a17) hl hv hn (rangeD 0 (4 : Int).toNat) S [] hS (fun v h => by cases h)
  rw [hr, List.length_nil] at q3
  have hs : decide (Small (4 : Int)) = true := by decide
  have hlen : decide (vs.length + acc.length ≤ 16777216) = true := decide_eq_true (by omega)
  refine ⟨S', vs ++ acc, q1, fun v h => ?_, by rw [List.length_append]; omega, ?_⟩
  · rcases List.mem_append.mp h with h | h
    · exact vok_of0 (hv v h)
    · exact q2 v h
  · unfold lB13
    simp_arith [hs, q4, h13, hlen]
end
end K84

-- K84P18
set_option maxHeartbeats 8000000
namespace K84
open PySem Pi
section
variable {L n : Nat} {scr : D}
def b14I : CSs := (.cons (.ife (.not (.call 20 (.cons (.call 28 (.cons (.cst (.str "judge")) (.cons (.var 15) (.cons (.var 16) (.cons (.var 14) .nil)))) []) (.cons (.call 30 (.cons (.var 15) (.cons (.var 16) (.cons (.var 14) .nil))) []) .nil)) [])) (.cons (.ret (.cst (.bl false))) .nil) .nil) .nil)
theorem b14_is : lB14 = (.fr (.nm 14) (.sq (.var 11)) (.cons (.fr (.tp [15, 16]) (.sq (.var 3)) b14I) .nil)) := rfl
theorem b14_in {S : List D} {a2 a3 a4 a5 a6 a7 a8 a9 a10 a11 a12 a13 a15 a16 a17 : Slot} {P : Wd × Wd} {v : D} (g : GP P) (hv : vok v = true) (h15 : nio a15 = true) (h16 : nio a16 = true) (hL : 20 < L) :
    (bindO (bindTg (.tp [15, 16]) (pd P) [.val scr, .own S, a2, a3, a4, a5, a6, a7, a8, a9, a10, a11, a12, a13, .val v, a15, a16, a17]) fun e => evalSs (C L (n+8)) L b14I e) =
      some (.nx [.val scr, .own S, a2, a3, a4, a5, a6, a7, a8, a9, a10, a11, a12, a13, .val v, .val (wd P.1), .val (wd P.2), a17]) := by
  obtain ⟨⟨p, q, c⟩, ⟨p', q', c'⟩⟩ := P
  have G : GW p q c := g.1
  have G' : GW p' q' c' := g.2
  have h1 := s_told_judge (L := L) (n := n + 6) (s_accepts (L := L) (n := n + 1) G G' hv hL)
  have h2 := s_is_one (L := L) (n := n + 2) G G' hv hL
  have h3 := s_law_equal (L := L) (n := n + 6) (a := judge p q c p' q' c' v) (b := judge p q c p' q' c' v)
  rw [beq_self_eq_true] at h3
  unfold b14I pd
  simp only [wd] at *
  simp_arith [h1, h2, h3, h15, h16]
theorem b14_loop {S : List D} {a2 a4 a5 a6 a7 a8 a9 a10 a11 a12 a13 a17 : Slot} {P0 P1 : Wd × Wd} (g0 : GP P0) (g1 : GP P1) (hL : 20 < L) : ∀ (xs : List D) (s3 a14 a15 a16 : Slot), (∀ v ∈ xs, vok v = true) → (s3 = .own [pd P0, pd P1] ∨ s3 = .val (.ls [pd P0, pd P1])) → nio a14 = true → nio a15 = true → nio a16 = true →
    ∃ s3' a14' a15' a16' : Slot, nio s3' = true ∧ nio a14' = true ∧ nio a15' = true ∧ nio a16' = true ∧
    doF (C L (n+8)) L (.nm 14) (.cons (.fr (.tp [15, 16]) (.sq (.var 3)) b14I) .nil) xs [.val scr, .own S, a2, s3, a4, a5, a6, a7, a8, a9, a10, a11, a12, a13, a14, a15, a16, a17] =
      some (.nx [.val scr, .own S, a2, s3', a4, a5, a6, a7, a8, a9, a10, a11, a12, a13, a14', a15', a16', a17])
  | [], s3, a14, a15, a16, hv, h3, h14, h15, h16 => ⟨s3, a14, a15, a16, by rcases h3 with rfl | rfl <;> rfl, h14, h15, h16, rfl⟩
  | v :: xs, s3, a14, a15, a16, hv, h3, h14, h15, h16 => by
    have hv1 := hv v List.mem_cons_self
    have i0 := b14_in (L := L) (n := n) (scr := scr) (S := S) (a2 := a2) (a3 := .val (.ls [pd P0, pd P1])) (a4 := a4) (a5 := a5) (a6 := a6) (a7 := a7) (a8 := a8) (a9 := a9) (a10 := a10) (a11 := a11) (a12 := a12) (a13 := a13) (a17 := a17) g0 hv1 h15 h16 hL
    have i1 := b14_in (L := L) (n := n) (scr := scr) (S := S) (a2 := a2) (a3 := .val (.ls [pd P0, pd P1])) (a4 := a4) (a5 := a5) (a6 := a6) (a7 := a7) (a8 := a8) (a9 := a9) (a10 := a10) (a11 := a11) (a12 := a12) (a13 := a13) (a15 := .val (wd P0.1)) (a16 := .val (wd P0.2)) (a17 := a17) g1 hv1 rfl rfl hL
    have hdo := (f_step (xs := [pd P1]) i0).trans ((f_step (xs := []) i1).trans f_nil)
    obtain ⟨s3', a14', a15', a16', q1, q2, q3, q4, q5⟩ := b14_loop g0 g1 hL xs (.val (.ls [pd P0, pd P1])) (.val v) (.val (wd P1.1)) (.val (wd P1.2)) (fun w hw => hv w (List.mem_cons_of_mem _ hw)) (.inr rfl) rfl rfl rfl
    refine ⟨s3', a14', a15', a16', q1, q2, q3, q4, ?_⟩
    rw [← q5]
    apply f_step
    rcases h3 with rfl | rfl <;> simp_arith [h14, hdo]
end
end K84

-- K84P19
set_option maxHeartbeats 8000000
namespace K84
open PySem Pi
section
variable {L n : Nat} {scr : D}
theorem b14 {S vs : List D} {a2 a4 a5 a6 a7 a8 a9 a10 a12 a13 a14 a15 a16 a17 : Slot} {P0 P1 : Wd × Wd} (g0 : GP P0) (g1 : GP P1) (hL : 20 < L) (hv : ∀ v ∈ vs, vok v = true) (h14 : nio a14 = true) (h15 : nio a15 = true) (h16 : nio a16 = true) :
    ∃ s3' a14' a15' a16' : Slot, nio s3' = true ∧ nio a14' = true ∧ nio a15' = true ∧ nio a16' = true ∧
    evalS (C L (n+8)) L lB14 [.val scr, .own S, a2, .own [pd P0, pd P1], a4, a5, a6, a7, a8, a9, a10, .own vs, a12, a13, a14, a15, a16, a17] =
      some (.nx [.val scr, .own S, a2, s3', a4, a5, a6, a7, a8, a9, a10, .val (.ls vs), a12, a13, a14', a15', a16', a17]) := by
  obtain ⟨s3', a14', a15', a16', q1, q2, q3, q4, q5⟩ := b14_loop (L := L) (n := n) (scr := scr) (S := S) (a2 := a2) (a4 := a4) (a5 := a5) (a6 := a6) (a7 := a7) (a8 := a8) (a9 := a9) (a10 := a10) (a11 := .val (.ls vs)) (a12 := a12) (a13 := a13) (a17 := a17) g0 g1 hL vs (.own [pd P0, pd P1]) a14 a15 a16 hv (.inl rfl) h14 h15 h16
  refine ⟨s3', a14', a15', a16', q1, q2, q3, q4, ?_⟩
  rw [b14_is]
  simp_arith [q5]
theorem turn_ok {S : List D} {t a3 a4 a5 a6 a7 a8 a9 a10 a11 a12 a13 a14 a15 a16 a17 : Slot} (hS : Strm S) (hL : 20 < L) (h3 : nio a3 = true) (h4 : nio a4 = true) (h5 : nio a5 = true) (h6 : nio a6 = true) (h7 : nio a7 = true) (h8 : nio a8 = true) (h9 : nio a9 = true) (h10 : nio a10 = true) (h11 : nio a11 = true) (h12 : nio a12 = true) (h13 : nio a13 = true) (h14 : nio a14 = true) (h15 : nio a15 = true) (h16 : nio a16 = true) (h17 : nio a17 = true) :
    ∃ (S' : List D) (b3 b4 b5 b6 b7 b8 b9 b10 b11 b12 b13 b14 b15 b16 : Slot), Strm S' ∧ (nio b3 && nio b4 && nio b5 && nio b6 && nio b7 && nio b8 && nio b9 && nio b10 && nio b11 && nio b12 && nio b13 && nio b14 && nio b15 && nio b16) = true ∧
    evalSs (C L (n+8)) L lawBody [.val scr, .own S, t, a3, a4, a5, a6, a7, a8, a9, a10, a11, a12, a13, a14, a15, a16, a17] =
      some (.nx [.val scr, .own S', t, b3, b4, b5, b6, b7, b8, b9, b10, b11, b12, b13, b14, b15, b16, a17]) := by
  obtain ⟨P0, P1, S1, g0, g1, s1, e1⟩ := b1 (L := L) (n := n + 4) (scr := scr) (a2 := t) (r := [a4, a5, a6, a7, a8, a9, a10, a11, a12, a13, a14, a15, a16, a17]) hS h3
  obtain ⟨Q, S2, c4, g2, s2, n4, e2⟩ := b2 (L := L) (n := n + 4) (scr := scr) (a2 := t) (r := [a5, a6, a7, a8, a9, a10, a11, a12, a13, a14, a15, a16, a17]) s1 h4 g0 g1
  have e3 := b3 (L := L) (n := n + 8) (scr := scr) (S := S2) (a2 := t) (a4 := c4) (r := [a7, a8, a9, a10, a11, a12, a13, a14, a15, a16, a17]) (P0 := Q) (P1 := P1) h5 h6
  obtain ⟨told, ht, e4⟩ := b4 (L := L) (n := n) (scr := scr) (S := S2) (a2 := t) (a4 := c4) (r := [a8, a9, a10, a11, a12, a13, a14, a15, a16, a17]) (P0 := Q) (P1 := P1) g2 h7 hL
  have e5 := b5 (L := L) (n := n + 8) (scr := scr) (S := S2) (a2 := t) (a4 := c4) (r := [a9, a10, a11, a12, a13, a14, a15, a16, a17]) (P0 := Q) (P1 := P1) (told := told) g2 h8
  have e6 := b6 (L := L) (n := n + 6) (scr := scr) (S := S2) (a2 := t) (a4 := c4) (r := [a11, a12, a13, a14, a15, a16, a17]) (P0 := Q) (P1 := P1) (told := told) g2 h9 h10
  have e7 := b7 (L := L) (n := n + 2) (scr := scr) (S := S2) (a2 := t) (a4 := c4) (a8 := .val (.int (Q.1.1 * Q.2.1))) (a9 := a9) (r := [a11, a12, a13, a14, a15, a16, a17]) (P0 := Q) (P1 := P1) (told := told) g2 ht hL
  obtain ⟨vs, w1, w2, w3, e8⟩ := b8 (L := L) (n := n + 7) (scr := scr) (S := S2) (a2 := t) (a4 := c4) (a8 := .val (.int (Q.1.1 * Q.2.1))) (a9 := a9) (a10 := .val (.bl (dueB Q))) (r := [a12, a13, a14, a15, a16, a17]) (P0 := Q) (P1 := P1) (told := told) g2 ht h11
  obtain ⟨S3, d, s3, d0, d1, e9⟩ := b9 (L := L) (n := n + 7) (scr := scr) (a2 := t) (a3 := .own [pd Q, pd P1]) (a4 := c4) (a5 := .val (wd Q.1)) (a6 := .val (wd Q.2)) (a7 := .val told) (a8 := .val (.int (Q.1.1 * Q.2.1))) (r := [.val (.bl (dueB Q)), .own vs, a12, a13, a14, a15, a16, a17]) s2 h9
  obtain ⟨x, y, x0, x1, y0, y1, e10⟩ := b10 (L := L) (n := n + 8) (scr := scr) (S := S3) (vs := []) (a2 := t) (a3 := .own [pd Q, pd P1]) (a4 := c4) (a7 := .val told) (a8 := .val (.int (Q.1.1 * Q.2.1))) (a10 := .val (.bl (dueB Q))) (a11 := .own vs) (a13 := a13) (a14 := a14) (a15 := a15) (a16 := a16) (a17 := a17) g2 d0 d1 h12 h17
  obtain ⟨S4, vs4, c13, s4, n13, l4, v4, ne4, e11⟩ := b11 (L := L) (n := n + 7) (scr := scr) (a2 := t) (a3 := .own [pd Q, pd P1]) (a4 := c4) (a5 := .val (wd Q.1)) (a6 := .val (wd Q.2)) (a7 := .val told) (a8 := .val (.int (Q.1.1 * Q.2.1))) (a10 := .val (.bl (dueB Q))) (a14 := a14) (a15 := a15) (a16 := a16) (a17 := a17) d0 d1 x0 x1 y0 y1 s3 h13 w2 w3 w1
  obtain ⟨vs5, l5, v5, ne5, e12⟩ := b12 (L := L) (n := n + 8) (scr := scr) (S := S4) (a2 := t) (a3 := .own [pd Q, pd P1]) (a4 := c4) (a5 := .val (wd Q.1)) (a6 := .val (wd Q.2)) (a8 := .val (.int (Q.1.1 * Q.2.1))) (a9 := .val (.int d)) (a10 := .val (.bl (dueB Q))) (r := [.own [.int x, .int y], c13, a14, a15, a16, a17]) g2 ht l4 v4 ne4
  obtain ⟨S6, vs6, s6, v6, l6, e13⟩ := b13 (L := L) (n := n + 5) (scr := scr) (a2 := t) (a3 := .own [pd Q, pd P1]) (a4 := c4) (a5 := .val (wd Q.1)) (a6 := .val (wd Q.2)) (a7 := .val told) (a8 := .val (.int (Q.1.1 * Q.2.1))) (a9 := .val (.int d)) (a10 := .val (.bl (dueB Q))) (a12 := .own [.int x, .int y]) (a14 := a14) (a15 := a15) (a16 := a16) (a17 := a17) s4 n13 l5 v5 ne5
  obtain ⟨z3, z14, z15, z16, m3, m14, m15, m16, e14⟩ := b14 (L := L) (n := n) (scr := scr) (S := S6) (a2 := t) (a4 := c4) (a5 := .val (wd Q.1)) (a6 := .val (wd Q.2)) (a7 := .val told) (a8 := .val (.int (Q.1.1 * Q.2.1))) (a9 := .val (.int d)) (a10 := .val (.bl (dueB Q))) (a12 := .own [.int x, .int y]) (a13 := c13) (a17 := a17) g2 g1 hL v6 h14 h15 h16
  refine ⟨S6, z3, c4, .val (wd Q.1), .val (wd Q.2), .val told, .val (.int (Q.1.1 * Q.2.1)), .val (.int d), .val (.bl (dueB Q)), .val (.ls vs6), .own [.int x, .int y], c13, z14, z15, z16, s6, ?_, ?_⟩
  · rw [m3, n4, n13, m14, m15, m16]; rfl
  · unfold lawBody
    rw [ss_nx e1, ss_nx e2, ss_nx e3, ss_nx e4, ss_nx e5, ss_nx e6, ss_nx e7, ss_nx e8, ss_nx e9, ss_nx e10, ss_nx e11, ss_nx e12, ss_nx e13, ss_nx e14, r_snil]
end
end K84

-- K84P20
set_option maxHeartbeats 8000000
namespace K84
open PySem Pi
section
variable {L n : Nat} {scr : D}
theorem turns_ok (hL : 20 < L) : ∀ (xs : List D) (S : List D) (t a3 a4 a5 a6 a7 a8 a9 a10 a11 a12 a13 a14 a15 a16 a17 : Slot), Strm S → nio t = true → (nio a3 && nio a4 && nio a5 && nio a6 && nio a7 && nio a8 && nio a9 && nio a10 && nio a11 && nio a12 && nio a13 && nio a14 && nio a15 && nio a16) = true → nio a17 = true →
    ∃ e : En, doF (C L (n+8)) L (.nm 2) lawBody xs [.val scr, .own S, t, a3, a4, a5, a6, a7, a8, a9, a10, a11, a12, a13, a14, a15, a16, a17] = some (.nx (.val scr :: e))
  | [], S, t, a3, a4, a5, a6, a7, a8, a9, a10, a11, a12, a13, a14, a15, a16, a17, hS, ht, h, h17 => ⟨_, rfl⟩
  | x :: xs, S, t, a3, a4, a5, a6, a7, a8, a9, a10, a11, a12, a13, a14, a15, a16, a17, hS, ht, h, h17 => by
    simp only [Bool.and_eq_true] at h
    obtain ⟨⟨⟨⟨⟨⟨⟨⟨⟨⟨⟨⟨⟨h3, h4⟩, h5⟩, h6⟩, h7⟩, h8⟩, h9⟩, h10⟩, h11⟩, h12⟩, h13⟩, h14⟩, h15⟩, h16⟩ := h
    obtain ⟨S', b3, b4, b5, b6, b7, b8, b9, b10, b11, b12, b13, b14, b15, b16, s1, hb, e1⟩ := turn_ok (L := L) (n := n) (scr := scr) (t := .val x) hS hL h3 h4 h5 h6 h7 h8 h9 h10 h11 h12 h13 h14 h15 h16 h17
    obtain ⟨e, he⟩ := turns_ok hL xs S' (.val x) b3 b4 b5 b6 b7 b8 b9 b10 b11 b12 b13 b14 b15 b16 a17 s1 rfl hb h17
    refine ⟨e, ?_⟩
    rw [← he]
    apply f_step
    rw [← e1]
    simp_arith [ht]
theorem plain0 (ns : List Int) (h : ns.length ≤ 63) (hL : 20 < L) (hS : Strm [.ls (ns.map D.int), .int 0, .int 0]) : C L (n+9) 31 [.val (.ls (ns.map D.int))] = some (.val (.bl true), []) := by
  rw [call_to (d := b84d31) rfl]
  obtain ⟨e, he⟩ := turns_ok (L := L) (n := n) (scr := .ls (ns.map D.int)) hL (rangeD 0 (4 : Int).toNat) _ .nil .nil .nil .nil .nil .nil .nil .nil .nil .nil .nil .nil .nil .nil .nil .nil hS rfl rfl rfl
  have h1 := s_stream (L := L) (n := n + 7) (ns := ns)
  have hs : decide (Small (4 : Int)) = true := by decide
  simp only [b84d31, law_is]
  unfold lawA
  simp_arith [h1, hs, he]
end
end K84

-- K84Head
set_option maxHeartbeats 0
namespace K84
open PySem PySem.Spec PyProof.Rows L2 Pi
abbrev K : Nat := 20
theorem plain (ns : List Int) (h : ns.length ≤ 63) : ∃ L, call (tabOf b84defs) L K 31 [.val (.ls (ns.map D.int))] = some (.val (.bl true), []) := ⟨21, plain0 (n := 11) ns h (by omega) ⟨ns, 0, 0, rfl, by omega⟩⟩
abbrev R : PySem.W.OpenRow := PySem.W.OpenLaw.row PySem.Challenge.rw_evensure_k84_whole_evidence_of_common_da
abbrev hk : PySem.W.Hook := He.hookD 4 (faL b84defs b84cs) (fnL b84defs)
def ob (s : PySem.W.SharedT) : He.AlD := He.obsDG 4 (faL b84defs b84cs) (fnL b84defs) (HandSHeadRun.getT s)
theorem ob_eq (s : PySem.W.SharedT) : ob s = hk.obs s.abs := He.obsDG_eq (HandSHeadRun.getT_eq s)
abbrev loose : List Str := (["EvenError", "BadValue", "is_integer", "is_from_to", "is_tuple_of", "MOST_NUMBER", "common_divisor", "is_fraction", "inverse", "is_world", "day_among", "MOST_PART", "check_pair", "first_event", "has_rest"] : List Str) ++
  (["common_rest", "day_with", "day_among_both", "both_paper", "accepts_both", "_law_stream", "_law_next", "_law_pick", "_law_plain", "_law_equal", "_law_whole", "_law_divisor", "_law_lowest", "_law_day", "_law_spoiled"] : List Str) ++
  (["_law_pair", "_law_events_on", "_law_told", "_law_rests", "_law_is_one"] : List Str)
theorem run (w : World) : HandSHeadRun.RunEq R (PySem.W.view R.prog [42]) hk ob 6000 loose w := by
  intro os
  kernel_rfl
end K84
open PySem PySem.W PySem.Calls PyProof.Rows
theorem PySem.Challenge.cw_evensure_k84_whole_evidence_of_common_da_holds : PySem.Challenge.rw_evensure_k84_whole_evidence_of_common_da.Holds := by
  w_on; o_law
  refine HandSHeadRun.head_any (r := OpenLaw.row PySem.Challenge.rw_evensure_k84_whole_evidence_of_common_da) (q := view (OpenLaw.row PySem.Challenge.rw_evensure_k84_whole_evidence_of_common_da).prog [42]) (H := K84.hk) (ob := K84.ob) (M := 6000) (loose := K84.loose) (d := HandSHeadRun.topDef (OpenLaw.row PySem.Challenge.rw_evensure_k84_whole_evidence_of_common_da).prog 42) (kwd := []) K84.ob_eq
    (by kernel_rfl) (fun s => by kernel_rfl) K84.run (by kernel_rfl) (by kernel_rfl) (by kernel_rfl) (by rfl) (by first | assumption | decide +kernel) (by decide +kernel) ⟨rfl, rfl, rfl, rfl, rfl, by decide +kernel⟩ ?hw ?hc
  case hw => w_witness2
  case hc =>
    refine L2.walk_ofE (l := PySem.Challenge.rw_evensure_k84_whole_evidence_of_common_da) (n := 63) (k := K84.K) (x := "script") (CX := L2.CX0) rfl (by decide) (by kernel_rfl) ⟨rfl, by decide, by decide⟩ ?F (fun _ _ _ _ z => z)
    intro w mg fa h Y G hmg0
    obtain ⟨K, KX, c⟩ := Y
    have hmg : mg ("law" : PySem.Str) = some (.ref fa) := by
      have e : (HandSHeadRun.topDef (OpenLaw.row PySem.Challenge.rw_evensure_k84_whole_evidence_of_common_da).prog 42).name = ("law" : PySem.Str) := by kernel_rfl
      rw [← e]
      exact hmg0
    obtain ⟨M, all⟩ := Pi.mod_ok KX G c K84.b84all
    obtain ⟨fd, F, hg, hb, hbt⟩ := all 31 K84.b84d31 rfl
    have e := hmg.symm.trans hg
    cases e
    exact ⟨K, fd, Pi.spLaw (Pi.rcOf K K84.b84defs) (Pi.tabOf K84.b84defs) K84.K 31, KX, fun s v => hbt s [v] rfl, fun H a ns hl hO hS => Pi.spLaw_of hO hS (K84.plain ns hl), fun base _ _ => Pi.law_fn M K84.K 31 F⟩
