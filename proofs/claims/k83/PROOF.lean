import PyProof.Rows.All
import HandS.Text
import HandS.ForMost
import HandS.Wide
import HandS.IsInst
import HandS.TupAny
import HandS.TupMul
import HandS.NoneIn
import HandS.Style
import HandS.Exc
import HandS.RaiseMore
import PyProof.ReprRoads
import HandS.Flow
import HandS.Defaults
import HandS.HeadEnd
import HandS.CallLocal
import HandS.Words
import HandS.HeadHook1
import HandS.HeadHook2
import HandS.Head0
import HandS.Head1
import HandS.Head2
import PySem.Challenge.RW_evensure_k83_whole_periods_and_far_commo
set_option Elab.async false
set_option linter.all false
set_option maxRecDepth 100000
-- PiCore
namespace Pi
open PySem

inductive D where
  | non | bl (b : Bool) | int (i : Int) | str (s : Str) | tup (ds : List D) | ls (ds : List D) | fn (j : Nat)
  deriving Inhabited

mutual
def D.toPy : D → PyData
  | .non => .none
  | .bl b => .bool b
  | .int i => .int i
  | .str s => .str s
  | .tup ds => .tuple (D.toPys ds)
  | .ls ds => .list (D.toPys ds)
  | .fn _ => .dict []
def D.toPys : List D → List PyData
  | [] => []
  | d :: ds => D.toPy d :: D.toPys ds
end

mutual
def D.eqv : D → D → Bool
  | .non, .non => true
  | .bl a, .bl b => a == b
  | .bl a, .int j => (if a then 1 else 0) == j
  | .int i, .bl b => i == (if b then 1 else 0)
  | .int i, .int j => i == j
  | .str x, .str y => x == y
  | .ls xs, .ls ys => D.eqvs xs ys
  | .tup xs, .tup ys => D.eqvs xs ys
  | _, _ => false
def D.eqvs : List D → List D → Bool
  | [], [] => true
  | x :: xs, y :: ys => D.eqv x y && D.eqvs xs ys
  | _, _ => false
end
def D.shp (d : D) : Bool := SeqAt.shaped d.toPy

def D.flat : D → Bool
  | .non | .bl _ | .int _ | .str _ => true
  | _ => false

inductive Slot where
  | nil | val (d : D) | own (ds : List D) | io (ds : List D)
  deriving Inhabited
abbrev En := List Slot

inductive BOp where | add | sub | mul | fdiv | mod | pow
inductive COp where | eq | ne | lt | le | gt | ge | inn | nin
inductive Ty where | int | bool | str | tuple | list
inductive BI where | len | abs | min | max | int | sum | tuple | list | all | any | repr

instance (i j : Int) : Decidable (L2.CMul i j) := inferInstanceAs (Decidable ((-(2 ^ 64) < i ∧ i < 2 ^ 64) ∨ (-(2 ^ 64) < j ∧ j < 2 ^ 64)))
def MulOk (i j : Int) : Prop := L2.CMul i j ∨ i.natAbs.log2 + j.natAbs.log2 < 1000000
instance (i j : Int) : Decidable (MulOk i j) := inferInstanceAs (Decidable (_ ∨ _))
def DivOk (j : Int) : Prop := 0 < j ∧ j.natAbs.log2 < 9000
instance (j : Int) : Decidable (DivOk j) := inferInstanceAs (Decidable (_ ∧ _))

def evalBin : BOp → D → D → Option Slot
  | .add, .int i, .int j => some (.val (.int (i + j)))
  | .add, .tup xs, .tup ys => if xs.length + ys.length ≤ sizeLine then some (.val (.tup (xs ++ ys))) else none
  | .add, .ls xs, .ls ys => if xs.length + ys.length ≤ sizeLine then some (.own (xs ++ ys)) else none
  | .add, .str x, .str y => if x.length + y.length ≤ sizeLine then some (.val (.str (x ++ y))) else none
  | .sub, .int i, .int j => some (.val (.int (i - j)))
  | .add, .bl b, .int j => some (.val (.int ((if b = true then (1 : Int) else 0) + j)))
  | .add, .int i, .bl b => some (.val (.int (i + if b = true then (1 : Int) else 0)))
  | .sub, .bl b, .int j => some (.val (.int ((if b = true then (1 : Int) else 0) - j)))
  | .sub, .int i, .bl b => some (.val (.int (i - if b = true then (1 : Int) else 0)))
  | .mul, .int i, .int j => if MulOk i j then some (.val (.int (i * j))) else none
  | .mul, .tup xs, .int k => if 2 ≤ k ∧ k ≤ 1000 ∧ xs.length ≤ 1000 then some (.val (.tup (List.replicate k.toNat xs).flatten)) else none
  | .mul, .ls xs, .int k => if -(2 ^ 63) ≤ k ∧ k < 2 ^ 63 ∧ xs.length * k.toNat ≤ sizeLine then some (.own (List.replicate k.toNat xs).flatten) else none
  | .fdiv, .int i, .int j => if DivOk j then some (.val (.int (i / j))) else if j ≠ 0 ∧ j.natAbs < 1073741824 then some (.val (.int (i.fdiv j))) else none
  | .mod, .int i, .int j => if 0 < j then some (.val (.int (i % j))) else if j ≠ 0 then some (.val (.int (i.fmod j))) else none
  | .pow, .int i, .int j => if 0 ≤ j ∧ j ≤ 1000000 ∧ i.natAbs < 2 ^ 64 then some (.val (.int (i ^ j.toNat))) else none
  | _, _, _ => none

def allInt : List D → Option (List Int)
  | [] => some []
  | .int i :: ds => (allInt ds).map (i :: ·)
  | _ => none
def allBl : List D → Option (List Bool)
  | [] => some []
  | .bl i :: ds => (allBl ds).map (i :: ·)
  | _ => none
def D.items : D → Option (List D)
  | .tup ds => some ds
  | .ls ds => some ds
  | _ => none
def D.isIn (x : D) (ds : List D) : Bool := ds.any fun y => D.eqv y x

def eqC : D → D → Option Bool
  | .str x, .str y => some (x == y)
  | a, b => if a.shp ∧ b.shp then some (D.eqv a b) else none
def evalCmp : COp → D → D → Option Bool
  | .eq, a, b => eqC a b
  | .ne, a, b => (eqC a b).map (!·)
  | .lt, .int i, .int j => some (decide (i < j))
  | .le, .int i, .int j => some (decide (i ≤ j))
  | .gt, .int i, .int j => some (decide (j < i))
  | .ge, .int i, .int j => some (decide (j ≤ i))
  | .lt, .tup xs, .tup ys => match allInt xs, allInt ys with
    | some ns, some ms => some (HT.lexLt ns ms)
    | _, _ => none
  | .inn, a, b => match b.items with
    | some ds => if a.flat ∧ ds.all D.flat then some (D.isIn a ds) else none
    | none => none
  | .nin, a, b => match b.items with
    | some ds => if a.flat ∧ ds.all D.flat then some (!D.isIn a ds) else none
    | none => none
  | _, _, _ => none

def D.isNon : D → Bool
  | .non => true
  | _ => false
def D.truth : D → Option Bool
  | .non => some false
  | .bl b => some b
  | .int i => some (i != 0)
  | .str s => if s.length ≤ sizeLine then some (s.length != 0) else none
  | .tup ds => some (!ds.isEmpty)
  | .ls ds => some (!ds.isEmpty)
  | .fn _ => none

def isTy : Ty → D → Option Bool
  | .int, .int _ | .int, .bl _ => some true
  | .bool, .bl _ => some true
  | .str, .str _ => some true
  | .tuple, .tup _ => some true
  | .list, .ls _ => some true
  | _, .fn _ => none
  | _, _ => some false

def maxOf : List Int → Option Int
  | [] => none
  | x :: xs => some (xs.foldl (fun m y => if m < y then y else m) x)
def minOf : List Int → Option Int
  | [] => none
  | x :: xs => some (xs.foldl (fun m y => if y < m then y else m) x)

def biLen : List D → Option Slot
  | [.tup ds] => some (.val (.int ds.length))
  | [.ls ds] => some (.val (.int ds.length))
  | [.str s] => if s.length ≤ sizeLine then some (.val (.int s.length)) else none
  | _ => none
def biAbs : List D → Option Slot
  | [.int i] => some (.val (.int (if i < 0 then -i else i)))
  | _ => none
def biMin : List D → Option Slot
  | [.int i, .int j] => some (.val (.int (if j < i then j else i)))
  | [.ls ds] => match allInt ds with
    | some ns => (minOf ns).map fun m => .val (.int m)
    | none => none
  | _ => none
def biMax : List D → Option Slot
  | [.int i, .int j] => some (.val (.int (if j > i then j else i)))
  | [.ls ds] => match allInt ds with
    | some ns => (maxOf ns).map fun m => .val (.int m)
    | none => none
  | _ => none
def biInt : List D → Option Slot
  | [.int i] => some (.val (.int i))
  | [.bl b] => some (.val (.int (if b then 1 else 0)))
  | _ => none
def biSum : List D → Option Slot
  | [.ls ds] => (allInt ds).map fun ns => .val (.int ns.sum)
  | _ => none
def biTuple : List D → Option Slot
  | [.tup ds] => some (.val (.tup ds))
  | [.ls ds] => some (.val (.tup ds))
  | _ => none
def biList : List D → Option Slot
  | [.tup ds] => some (.own ds)
  | [.ls ds] => some (.own ds)
  | _ => none
def biAll : List D → Option Slot
  | [.ls ds] => (allBl ds).map fun bs => .val (.bl (bs.all id))
  | _ => none
def biAny : List D → Option Slot
  | [.ls ds] => (allBl ds).map fun bs => .val (.bl (bs.any id))
  | _ => none
def D.repOk (d : D) : Bool := d.toPy.canLay0 && d.toPy.showable && decide (d.toPy.depth ≤ 60) && decide (d.toPy.shown.length ≤ sizeLine)
def biRepr : List D → Option Slot
  | [.bl b] => some (.val (.str (if b then "True" else "False")))
  | [.non] => some (.val (.str "None"))
  | [.int i] => if i.natAbs.log2 < 1920 then some (.val (.str (toString i))) else none
  | [.tup ds] => if (D.tup ds).repOk then some (.val (.str (D.tup ds).toPy.shown)) else none
  | [.str s] => if (D.str s).repOk then some (.val (.str (D.str s).toPy.shown)) else none
  | _ => none
def evalBI : BI → List D → Option Slot
  | .len, ds => biLen ds
  | .abs, ds => biAbs ds
  | .min, ds => biMin ds
  | .max, ds => biMax ds
  | .int, ds => biInt ds
  | .sum, ds => biSum ds
  | .tuple, ds => biTuple ds
  | .list, ds => biList ds
  | .all, ds => biAll ds
  | .any, ds => biAny ds
  | .repr, ds => biRepr ds

inductive Tg where | nm (i : Nat) | tp (is : List Nat)

mutual
inductive CE where
  | var (i : Nat)
  | cst (d : D)
  | gc (x : Str) (d : D)
  | gf (x : Str) (j : Nat)
  | bin (o : BOp) (a b : CE)
  | neg (a : CE)
  | cmp (o : COp) (a b : CE)
  | chain (o o' : COp) (a b c : CE)
  | isN (neg : Bool) (a : CE)
  | and (a b : CE) | or (a b : CE) | not (a : CE)
  | ife (c a b : CE)
  | tup (es : CEs) | lst (es : CEs)
  | ix (a i : CE) | ixv (k : Nat) (i : CE)
  | sl (a lo hi : CE) | slv (k : Nat) (lo hi : CE)
  | rev (a : CE)
  | call (j : Nat) (es : CEs) (dv : List D)
  | callv (i : Nat) (es : CEs)
  | io (i : Nat)
  | bi (b : BI) (es : CEs)
  | lenv (k : Nat)
  | isi (a : CE) (t : Ty)
  | lc (elt : CE) (tg : Tg) (it : CI) (cond : CE) (vs : List Nat)
  | pop (i : Nat)
inductive CEs where | nil | cons (e : CE) (es : CEs)
inductive CI where
  | sq (e : CE) | rg1 (a : CE) | rg2 (a b : CE) | rg3 (a b c : CE) | en (e : CE) | zip (a b : CE)
end

def setSlot (env : En) (i : Nat) (s : Slot) : Option En :=
  match env[i]? with
  | none => none
  | some (.io _) => none
  | some _ => some (env.set i s)
def setSlots (env : En) : List Nat → List Slot → Option En
  | [], [] => some env
  | i :: is, s :: ss => match setSlot env i s with
    | some env' => setSlots env' is ss
    | none => none
  | _, _ => none
def bindTg : Tg → D → En → Option En
  | .nm i, d, env => setSlot env i (.val d)
  | .tp is, .tup ds, env => if is.length = ds.length then setSlots env is (ds.map .val) else none
  | .tp is, .ls ds, env => if is.length = ds.length then setSlots env is (ds.map .val) else none
  | .tp _, _, _ => none
def wipeEn (env : En) : List Nat → Option En
  | [] => some env
  | v :: vs => match wipeEn env vs with
    | some e => setSlot e v .nil
    | none => none
def restore (old : En) (env : En) : List Nat → En
  | [] => env
  | v :: vs => match old[v]? with
    | some s => (restore old env vs).set v s
    | none => restore old env vs

def Dum {α : Type} (_ : α) : Type := Unit
section
variable {β : Type}
def bindV (x : Option (Slot × En)) (f : D → En → Option β) (_u : Dum f := ()) : Option β :=
  match x with
  | some (.val d, e) => f d e
  | some (.own ds, e) => f (.ls ds) e
  | _ => none
def bindB (x : Option (Bool × En)) (f : Bool → En → Option β) (_u : Dum f := ()) : Option β :=
  match x with
  | some (b, e) => f b e
  | none => none
def bindDs (x : Option (List D × En)) (f : List D → En → Option β) (_u : Dum f := ()) : Option β :=
  match x with
  | some (b, e) => f b e
  | none => none
def bindSs (x : Option (List Slot × En)) (f : List Slot → En → Option β) (_u : Dum f := ()) : Option β :=
  match x with
  | some (b, e) => f b e
  | none => none
theorem bindV_val {d e} (f : D → En → Option β) : bindV (some (.val d, e)) f = f d e := rfl
theorem bindV_own {d e} (f : D → En → Option β) : bindV (some (.own d, e)) f = f (.ls d) e := rfl
theorem bindB_some {d e} (f : Bool → En → Option β) : bindB (some (d, e)) f = f d e := rfl
theorem bindDs_some {d e} (f : List D → En → Option β) : bindDs (some (d, e)) f = f d e := rfl
theorem bindSs_some {d e} (f : List Slot → En → Option β) : bindSs (some (d, e)) f = f d e := rfl
end
def Slot.toD : Slot → Option D
  | .val d => some d
  | .own ds => some (.ls ds)
  | _ => none
def Slot.read : Slot → Option D
  | .val d => some d
  | .own ds => some (.ls ds)
  | .io ds => some (.ls ds)
  | .nil => none
def readAt (env : En) (i : Nat) : Option D := match env[i]? with
  | some s => s.read
  | none => none
def Slot.list : Slot → Option (List D)
  | .own ds => some ds
  | .io ds => some ds
  | _ => none
def listAt (env : En) (i : Nat) : Option (List D) := match env[i]? with
  | some s => s.list
  | none => none
def putList (env : En) (i : Nat) (ds : List D) : Option En := match env[i]? with
  | some (.own _) => some (env.set i (.own ds))
  | some (.io _) => some (env.set i (.io ds))
  | _ => none
def putLists (env : En) : List Nat → List (List D) → Option En
  | [], [] => some env
  | i :: is, ds :: dss => match putList env i ds with
    | some e => putLists e is dss
    | none => none
  | _, _ => none
def ixD (d : D) (i : D) : Option D := match d, i with
  | .tup ds, .int k => L2.atI ds k
  | .ls ds, .int k => L2.atI ds k
  | .str s, .int k => if s.length ≤ sizeLine then (L2.atI s.cps.toList k).map fun c => .str ⟨#[c]⟩ else none
  | _, _ => none
def partD : D → Option (Option Int)
  | .non => some none
  | .int i => some (some i)
  | _ => none
def cutD (ds : List D) (lo hi : Option Int) : List D := (ds.drop (HT.sIx ds.length 0 lo)).take (HT.sIx ds.length ds.length hi - HT.sIx ds.length 0 lo)
def slD (d lo hi : D) : Option Slot := match partD lo, partD hi with
  | some l, some h => match d with
    | .tup ds => some (.val (.tup (cutD ds l h)))
    | .ls ds => some (.own (cutD ds l h))
    | .str s => if s.length ≤ sizeLine then some (.val (.str (L2.cutS s l h))) else none
    | _ => none
  | _, _ => none
def revD : D → Option Slot
  | .tup ds => some (.val (.tup ds.reverse))
  | .ls ds => some (.own ds.reverse)
  | _ => none
def rangeD (lo : Int) (n : Nat) : List D := (List.range n).map fun (k : Nat) => .int (lo + (k : Int))
def Small (i : Int) : Prop := -(2 ^ 62) ≤ i ∧ i < 2 ^ 62
instance (i : Int) : Decidable (Small i) := inferInstanceAs (Decidable (_ ∧ _))
def rangeStep (i j c : Int) : Option (List D) :=
  if Small i ∧ Small j ∧ j - i ≤ sizeLine ∧ 0 < c ∧ c < 1073741824 then
    some ((List.range ((j - i + c - 1) / c).toNat).map fun (k : Nat) => .int (i + k * c))
  else none
def enumD (ds : List D) : List D := (List.range ds.length).map fun (k : Nat) => .tup [.int (k : Int), ds.getD (k : Nat) .non]
def zipD (xs ys : List D) : List D := (xs.zip ys).map fun p => .tup [p.1, p.2]

def lcLoop (body : D → En → Option (Option D × En)) : List D → En → List D → Option (List D × En)
  | [], env, acc => some (acc, env)
  | x :: xs, env, acc => match body x env with
    | some (some d, env') => lcLoop body xs env' (acc ++ [d])
    | some (none, env') => lcLoop body xs env' acc
    | none => none

abbrev Oracle := Nat → List Slot → Option (Slot × List (List D))
def iosOf : CEs → List Nat
  | .nil => []
  | .cons (.io i) es => i :: iosOf es
  | .cons _ es => iosOf es

section
variable (cl : Oracle)
mutual
def evalE : CE → En → Option (Slot × En)
  | .var i, env => match env[i]? with
    | some (.val d) => some (.val d, env)
    | some (.own ds) => some (.val (.ls ds), env.set i (.val (.ls ds)))
    | _ => none
  | .cst d, env => some (.val d, env)
  | .gc _ d, env => some (.val d, env)
  | .gf _ j, env => some (.val (.fn j), env)
  | .bin o a b, env => bindV (evalE a env) fun x e1 => bindV (evalE b e1) fun y e2 => (evalBin o x y).map fun s => (s, e2)
  | .neg a, env => bindV (evalE a env) fun x e1 => match x with
    | .int i => some (.val (.int (-i)), e1)
    | _ => none
  | .cmp o a b, env => bindV (evalE a env) fun x e1 => bindV (evalE b e1) fun y e2 => (evalCmp o x y).map fun s => (.val (.bl s), e2)
  | .chain o o' a b c, env => bindV (evalE a env) fun x e1 => bindV (evalE b e1) fun y e2 => match evalCmp o x y with
    | some true => bindV (evalE c e2) fun z e3 => (evalCmp o' y z).map fun s => (.val (.bl s), e3)
    | some false => some (.val (.bl false), e2)
    | none => none
  | .isN n a, env => bindV (evalE a env) fun x e1 => some (.val (.bl (if n then !x.isNon else x.isNon)), e1)
  | .and a b, env => bindV (evalE a env) fun x e1 => match x with
    | .bl true => bindV (evalE b e1) fun y e2 => some (.val y, e2)
    | .bl false => some (.val (.bl false), e1)
    | _ => none
  | .or a b, env => bindV (evalE a env) fun x e1 => match x with
    | .bl false => bindV (evalE b e1) fun y e2 => some (.val y, e2)
    | .bl true => some (.val (.bl true), e1)
    | _ => none
  | .not a, env => bindV (evalE a env) fun x e1 => x.truth.map fun b => (.val (.bl (!b)), e1)
  | .ife c a b, env => bindB (evalT c env) fun x e1 => if x then evalE a e1 else evalE b e1
  | .tup es, env => bindDs (evalEs es env) fun ds e1 => if ds.length ≤ sizeLine then some (.val (.tup ds), e1) else none
  | .lst es, env => bindDs (evalEs es env) fun ds e1 => if ds.length ≤ sizeLine then some (.own ds, e1) else none
  | .ix a i, env => bindV (evalE a env) fun x e1 => bindV (evalE i e1) fun y e2 => (ixD x y).map fun d => (.val d, e2)
  | .ixv k i, env => if (readAt env k).isSome then bindV (evalE i env) fun y e1 => match readAt e1 k with
      | some x => (ixD x y).map fun d => (.val d, e1)
      | none => none
    else none
  | .sl a lo hi, env => bindV (evalE a env) fun x e1 => bindV (evalE lo e1) fun l e2 => bindV (evalE hi e2) fun h e3 => (slD x l h).map fun s => (s, e3)
  | .slv k lo hi, env => if (readAt env k).isSome then bindV (evalE lo env) fun l e2 => bindV (evalE hi e2) fun h e3 => match readAt e3 k with
      | some x => (slD x l h).map fun s => (s, e3)
      | none => none
    else none
  | .rev a, env => bindV (evalE a env) fun x e1 => (revD x).map fun s => (s, e1)
  | .call j es dv, env => bindSs (evalAs es env) fun ss e1 => match cl j (ss ++ dv.map .val) with
    | some (r, outs) => (putLists e1 (iosOf es) outs).map fun e2 => (r, e2)
    | none => none
  | .callv i es, env => match env[i]? with
    | some (.val (.fn j)) => bindSs (evalAs es env) fun ss e1 => match cl j ss with
      | some (r, outs) => (putLists e1 (iosOf es) outs).map fun e2 => (r, e2)
      | none => none
    | _ => none
  | .io _, _ => none
  | .bi b es, env => bindDs (evalEs es env) fun ds e1 => (evalBI b ds).map fun s => (s, e1)
  | .lenv k, env => match readAt env k with
    | some d => (evalBI .len [d]).map fun s => (s, env)
    | none => none
  | .isi a t, env => bindV (evalE a env) fun x e1 => (isTy t x).map fun b => (.val (.bl b), e1)
  | .lc elt tg it cond vs, env => bindDs (evalI it env) fun xs e1 => match wipeEn e1 vs with
    | some e2 => (lcLoop (fun x e => match bindTg tg x e with
        | some e3 => bindB (evalT cond e3) fun b e4 => if b then bindV (evalE elt e4) fun d e5 => (wipeEn e5 vs).map fun e6 => (some d, e6) else (wipeEn e4 vs).map fun e6 => (none, e6)
        | none => none) xs e2 []).map fun p => (.own p.1, restore e1 p.2 vs)
    | none => none
  | .pop i, env => match listAt env i with
    | some ds => match ds.getLast? with
      | some d => (putList env i ds.dropLast).map fun e1 => (.val d, e1)
      | none => none
    | none => none
def evalT : CE → En → Option (Bool × En)
  | .and a b, env => bindB (evalT a env) fun x e1 => if x then evalT b e1 else some (false, e1)
  | .or a b, env => bindB (evalT a env) fun x e1 => if x then some (true, e1) else evalT b e1
  | .not a, env => bindB (evalT a env) fun x e1 => some (!x, e1)
  | .var i, env => match readAt env i with
    | some d => d.truth.map fun b => (b, env)
    | none => none
  | .cst (.bl b), env => some (b, env)
  | .bin o a b, env => bindV (evalE (.bin o a b) env) fun d e1 => d.truth.map fun b => (b, e1)
  | .neg a, env => bindV (evalE (.neg a) env) fun d e1 => d.truth.map fun b => (b, e1)
  | .cmp o a b, env => bindV (evalE (.cmp o a b) env) fun d e1 => d.truth.map fun b => (b, e1)
  | .chain o o' a b c, env => bindV (evalE (.chain o o' a b c) env) fun d e1 => d.truth.map fun b => (b, e1)
  | .isN n a, env => bindV (evalE (.isN n a) env) fun d e1 => d.truth.map fun b => (b, e1)
  | .ix a i, env => bindV (evalE (.ix a i) env) fun d e1 => d.truth.map fun b => (b, e1)
  | .ixv a i, env => bindV (evalE (.ixv a i) env) fun d e1 => d.truth.map fun b => (b, e1)
  | .call a i dv, env => bindV (evalE (.call a i dv) env) fun d e1 => d.truth.map fun b => (b, e1)
  | .bi a i, env => bindV (evalE (.bi a i) env) fun d e1 => d.truth.map fun b => (b, e1)
  | .isi a i, env => bindV (evalE (.isi a i) env) fun d e1 => d.truth.map fun b => (b, e1)
  | _, _ => none
def evalEs : CEs → En → Option (List D × En)
  | .nil, env => some ([], env)
  | .cons e es, env => bindV (evalE e env) fun d e1 => bindDs (evalEs es e1) fun ds e2 => some (d :: ds, e2)
def evalAs : CEs → En → Option (List Slot × En)
  | .nil, env => some ([], env)
  | .cons (.io i) es, env => if (listAt env i).isSome then bindSs (evalAs es env) fun ss e1 => match listAt e1 i with
      | some ds => some (.own ds :: ss, e1)
      | none => none
    else none
  | .cons e es, env => bindV (evalE e env) fun d e1 => bindSs (evalAs es e1) fun ds e2 => some (.val d :: ds, e2)
def evalI : CI → En → Option (List D × En)
  | .sq e, env => bindV (evalE e env) fun d e1 => d.items.map fun ds => (ds, e1)
  | .rg1 a, env => bindV (evalE a env) fun d e1 => match d with
    | .int j => if Small j ∧ j ≤ sizeLine then some (rangeD 0 j.toNat, e1) else none
    | _ => none
  | .rg2 a b, env => bindV (evalE a env) fun d e1 => bindV (evalE b e1) fun d' e2 => match d, d' with
    | .int i, .int j => if Small i ∧ Small j ∧ j - i ≤ sizeLine then some (rangeD i (j - i).toNat, e2) else none
    | _, _ => none
  | .rg3 a b c, env => bindV (evalE a env) fun d e1 => bindV (evalE b e1) fun d' e2 => bindV (evalE c e2) fun d'' e3 => match d, d', d'' with
    | .int i, .int j, .int c => (rangeStep i j c).map fun ds => (ds, e3)
    | _, _, _ => none
  | .en e, env => bindV (evalE e env) fun d e1 => match d with
    | .ls ds => some (enumD ds, e1)
    | _ => none
  | .zip a b, env => bindV (evalE a env) fun d e1 => bindV (evalE b e1) fun d' e2 => match d, d' with
    | .tup xs, .tup ys => some (zipD xs ys, e2)
    | .ls xs, .ls ys => some (zipD xs ys, e2)
    | _, _ => none
end

inductive Flo where
  | nx (e : En) | rt (r : Slot) (e : En) | bk (e : En) | ct (e : En)

mutual
inductive CS where
  | asg (tg : Tg) (e : CE)
  | asl (is : List Nat) (es : CEs)
  | setix (i : Nat) (k e : CE)
  | app (i : Nat) (e : CE) | ext (i : Nat) (e : CE)
  | drop (e : CE)
  | ret (e : CE) | retv (i : Nat) | ret0
  | ife (c : CE) (a b : CSs)
  | whl (c : CE) (b : CSs)
  | fr (tg : Tg) (it : CI) (b : CSs)
  | brk | cnt | pass | raise
  | try_ (b : CSs)
inductive CSs where | nil | cons (s : CS) (ss : CSs)
end

def evalSl : CEs → En → Option (List Slot × En)
  | .nil, env => some ([], env)
  | .cons e es, env => match evalE cl e env with
    | some (s, e1) => bindSs (evalSl es e1) fun ss e2 => some (s :: ss, e2)
    | none => none

def whlLoop (c : En → Option (Bool × En)) (b : En → Option Flo) : Nat → En → Option Flo
  | 0, _ => none
  | n + 1, env => match c env with
    | some (true, e1) => match b e1 with
      | some (.nx e2) => whlLoop c b n e2
      | some (.ct e2) => whlLoop c b n e2
      | some (.bk e2) => some (.nx e2)
      | some (.rt r e2) => some (.rt r e2)
      | none => none
    | some (false, e1) => some (.nx e1)
    | none => none
def forLoop (b : D → En → Option Flo) : List D → En → Option Flo
  | [], env => some (.nx env)
  | x :: xs, env => match b x env with
    | some (.nx e2) => forLoop b xs e2
    | some (.ct e2) => forLoop b xs e2
    | some (.bk e2) => some (.nx e2)
    | some (.rt r e2) => some (.rt r e2)
    | none => none
def bodyAt (t : Tg) (f : En → Option Flo) (x : D) (e : En) : Option Flo := match bindTg t x e with
  | some e2 => f e2
  | none => none

variable (L : Nat)
mutual
def evalS : CS → En → Option Flo
  | .asg (.nm i) e, env => match evalE cl e env with
    | some (s, e1) => (setSlot e1 i s).map .nx
    | none => none
  | .asg (.tp is) e, env => bindV (evalE cl e env) fun d e1 => (bindTg (.tp is) d e1).map .nx
  | .asl is es, env => bindSs (evalSl cl es env) fun ss e1 => (setSlots e1 is ss).map .nx
  | .setix i k e, env => bindV (evalE cl e env) fun d e1 => if (listAt e1 i).isSome then bindV (evalE cl k e1) fun y e2 => match listAt e2 i, y with
      | some ds, .int n => match L2.ixN ds.length n with
        | some j => (putList e2 i (ds.set j d)).map .nx
        | none => none
      | _, _ => none
    else none
  | .app i e, env => if (listAt env i).isSome then bindV (evalE cl e env) fun d e1 => match listAt e1 i with
      | some ds => if ds.length < sizeLine then (putList e1 i (ds ++ [d])).map .nx else none
      | none => none
    else none
  | .ext i e, env => if (listAt env i).isSome then match evalE cl e env with
      | some (.own zs, e1) => match listAt e1 i with
        | some ds => if ds.length + zs.length ≤ sizeLine then (putList e1 i (ds ++ zs)).map .nx else none
        | none => none
      | _ => none
    else none
  | .drop e, env => match evalE cl e env with
    | some (_, e1) => some (.nx e1)
    | none => none
  | .ret e, env => match evalE cl e env with
    | some (s, e1) => some (.rt s e1)
    | none => none
  | .retv i, env => match env[i]? with
    | some (.val d) => some (.rt (.val d) env)
    | some (.own ds) => some (.rt (.own ds) (env.set i .nil))
    | _ => none
  | .ret0, env => some (.rt (.val .non) env)
  | .ife c a b, env => bindB (evalT cl c env) fun x e1 => if x then evalSs a e1 else evalSs b e1
  | .whl c b, env => whlLoop (evalT cl c) (evalSs b) L env
  | .fr tg it b, env => bindDs (evalI cl it env) fun xs e1 => forLoop (bodyAt tg fun e => evalSs b e) xs e1
  | .brk, env => some (.bk env)
  | .cnt, env => some (.ct env)
  | .pass, env => some (.nx env)
  | .raise, _ => none
  | .try_ b, env => evalSs b env
def evalSs : CSs → En → Option Flo
  | .nil, env => some (.nx env)
  | .cons s ss, env => match evalS s env with
    | some (.nx e1) => evalSs ss e1
    | f => f
end
end

structure CDef where
  mask : List Bool
  size : Nat
  body : CSs

def argSlots : List Bool → List Slot → Option (List Slot)
  | [], [] => some []
  | true :: ms, .own ds :: ss => (argSlots ms ss).map (.io ds :: ·)
  | false :: ms, .val d :: ss => (argSlots ms ss).map (.val d :: ·)
  | _, _ => none
def outsOf : List Bool → En → Option (List (List D))
  | [], _ => some []
  | true :: ms, .io ds :: env => (outsOf ms env).map (ds :: ·)
  | false :: ms, _ :: env => outsOf ms env
  | _, _ => none
def runDef (cl : Oracle) (L : Nat) (d : CDef) (args : List Slot) : Option (Slot × List (List D)) :=
  match argSlots d.mask args with
  | some ss => match evalSs cl L d.body (ss ++ List.replicate (d.size - ss.length) .nil) with
    | some (.nx e) => (outsOf d.mask e).map fun o => (.val .non, o)
    | some (.rt r e) => (outsOf d.mask e).map fun o => (r, o)
    | _ => none
  | none => none
def call (tab : Nat → Option CDef) (L : Nat) : Nat → Oracle
  | 0, _, _ => none
  | n + 1, j, args => match tab j with
    | some d => runDef (call tab L n) L d args
    | none => none
end Pi

-- PiBase
set_option maxHeartbeats 1000000
namespace Pi
open PySem PySem.Spec PyProof.Rows L2

structure Rc where
  K : PySem.W.Frag
  fa : Nat → Addr
structure Gh extends Rc where
  H0 : Hp
  io : List (Nat × Addr)

def Fz (K : PySem.W.Frag) (H : Hp) (a : Addr) (xs : List V) : Prop := (∃ o, H a = some (.frz o (.lst xs))) ∨
  ∃ (o : Obj) (its : Array Value) (n : Nat), K.lookup a = some o ∧ o.cls = .type "list" ∧ o.dict = none ∧ o.data = .seq its n ∧ its.size ≤ sizeLine ∧ Vals xs its.toList
theorem Fz.seq {K : PySem.W.Frag} {H : Hp} {a : Addr} {xs : List V} (h : Fz K H a xs) : SqL K H a xs := by
  rcases h with h | h
  · exact .inl (.inr h)
  · exact .inr h

theorem Fz.seqX {K K' : PySem.W.Frag} {H : Hp} {a : Addr} {xs : List V} (h : Fz K H a xs) (e : K' = K) : SqL K' H a xs := by
  subst e
  exact h.seq

mutual
def Rep (G : Rc) (H : Hp) : V → D → Prop
  | v, .non => v = .non
  | v, .bl b => v = .bl b
  | v, .int i => v = .int i
  | v, .str x => v = .str x
  | v, .tup ds => ∃ a xs, v = .ref a ∧ SqT G.K H a xs ∧ Reps G H xs ds
  | v, .ls ds => ∃ a xs, v = .ref a ∧ Fz G.K H a xs ∧ Reps G H xs ds
  | v, .fn j => v = .ref (G.fa j)
def Reps (G : Rc) (H : Hp) : List V → List D → Prop
  | [], [] => True
  | v :: vs, d :: ds => Rep G H v d ∧ Reps G H vs ds
  | _, _ => False
end
structure Kp (H H' : Hp) : Prop where
  tup : ∀ a xs, H a = some (.tup xs) → H' a = some (.tup xs)
  frz : ∀ a o u, H a = some (.frz o u) → H' a = some (.frz o u)
theorem Kp.refl (H : Hp) : Kp H H := ⟨fun _ _ h => h, fun _ _ _ h => h⟩
theorem Kp.trans {H H1 H2 : Hp} (a : Kp H H1) (b : Kp H1 H2) : Kp H H2 := ⟨fun x y h => b.tup _ _ (a.tup _ _ h), fun x y z h => b.frz _ _ _ (a.frz _ _ _ h)⟩
theorem Kp.sqt {K : PySem.W.Frag} {H H' : Hp} {a : Addr} {xs : List V} (k : Kp H H') (h : SqT K H a xs) : SqT K H' a xs := by
  rcases h with (h | ⟨o, h⟩) | h
  · exact .inl (.inl (k.tup _ _ h))
  · exact .inl (.inr ⟨o, k.frz _ _ _ h⟩)
  · exact .inr h
theorem Kp.fz {K : PySem.W.Frag} {H H' : Hp} {a : Addr} {xs : List V} (k : Kp H H') (h : Fz K H a xs) : Fz K H' a xs := by
  rcases h with ⟨o, h⟩ | h
  · exact .inl ⟨o, k.frz _ _ _ h⟩
  · exact .inr h
section
variable {G : Rc} {H H' : Hp} {v : V} {vs : List V} {d : D} {ds : List D} {i : Int} {b : Bool} {x : Str} {j : Nat}
theorem rep_non : Rep G H v .non ↔ v = .non := by simp only [Rep]
theorem rep_bl : Rep G H v (.bl b) ↔ v = .bl b := by simp only [Rep]
theorem rep_int : Rep G H v (.int i) ↔ v = .int i := by simp only [Rep]
theorem rep_str : Rep G H v (.str x) ↔ v = .str x := by simp only [Rep]
theorem rep_fn : Rep G H v (.fn j) ↔ v = .ref (G.fa j) := by simp only [Rep]
theorem rep_tup : Rep G H v (.tup ds) ↔ ∃ a xs, v = .ref a ∧ SqT G.K H a xs ∧ Reps G H xs ds := by simp only [Rep]
theorem rep_ls : Rep G H v (.ls ds) ↔ ∃ a xs, v = .ref a ∧ Fz G.K H a xs ∧ Reps G H xs ds := by simp only [Rep]
theorem reps_nil : Reps G H vs [] ↔ vs = [] := by cases vs <;> simp [Reps]
theorem reps_cons : Reps G H vs (d :: ds) ↔ ∃ v r, vs = v :: r ∧ Rep G H v d ∧ Reps G H r ds := by
  cases vs with
  | nil => simp [Reps]
  | cons v r =>
    rw [Reps]
    exact ⟨fun h => ⟨v, r, rfl, h⟩, fun ⟨_, _, e, h⟩ => by cases e; exact h⟩
theorem reps_nil' : Reps G H [] ds ↔ ds = [] := by cases ds <;> simp [Reps]
theorem reps_cons' : Reps G H (v :: vs) ds ↔ ∃ d r, ds = d :: r ∧ Rep G H v d ∧ Reps G H vs r := by
  cases ds with
  | nil => simp [Reps]
  | cons d r =>
    rw [Reps]
    exact ⟨fun h => ⟨d, r, rfl, h⟩, fun ⟨_, _, e, h⟩ => by cases e; exact h⟩
mutual
theorem Rep.keep (k : Kp H H') : ∀ (d : D) (v : V), Rep G H v d → Rep G H' v d
  | .non, _, h => by rw [rep_non] at *; exact h
  | .bl _, _, h => by rw [rep_bl] at *; exact h
  | .int _, _, h => by rw [rep_int] at *; exact h
  | .str _, _, h => by rw [rep_str] at *; exact h
  | .fn _, _, h => by rw [rep_fn] at *; exact h
  | .tup ds, _, h => by
    rw [rep_tup] at *
    obtain ⟨a, xs, e, q, r⟩ := h
    exact ⟨a, xs, e, k.sqt q, Reps.keep k ds xs r⟩
  | .ls ds, _, h => by
    rw [rep_ls] at *
    obtain ⟨a, xs, e, q, r⟩ := h
    exact ⟨a, xs, e, k.fz q, Reps.keep k ds xs r⟩
theorem Reps.keep (k : Kp H H') : ∀ (ds : List D) (vs : List V), Reps G H vs ds → Reps G H' vs ds
  | [], _, h => by rw [reps_nil] at *; exact h
  | d :: ds, vs, h => by
    rw [reps_cons] at *
    obtain ⟨v, r, e, h1, h2⟩ := h
    exact ⟨v, r, e, Rep.keep k d v h1, Reps.keep k ds r h2⟩
end
theorem Reps.length : ∀ {ds : List D} {vs : List V}, Reps G H vs ds → vs.length = ds.length
  | [], _, h => by rw [reps_nil] at h; subst h; rfl
  | d :: ds, vs, h => by
    rw [reps_cons] at h
    obtain ⟨v, r, e, h1, h2⟩ := h
    subst e
    simp [Reps.length h2]
theorem Reps.get : ∀ {ds : List D} {vs : List V} {i : Nat} {d : D}, Reps G H vs ds → ds[i]? = some d → ∃ v, vs[i]? = some v ∧ Rep G H v d
  | [], _, _, _, h, e => by simp at e
  | d :: ds, vs, i, d', h, e => by
    rw [reps_cons] at h
    obtain ⟨v, r, rfl, h1, h2⟩ := h
    cases i with
    | zero => simp at e; subst e; exact ⟨v, rfl, h1⟩
    | succ i =>
      simp at e
      obtain ⟨w, e1, e2⟩ := Reps.get h2 e
      exact ⟨w, by simpa using e1, e2⟩
theorem Reps.append : ∀ {ds es : List D} {vs ws : List V}, Reps G H vs ds → Reps G H ws es → Reps G H (vs ++ ws) (ds ++ es)
  | [], _, _, _, h, h' => by rw [reps_nil] at h; subst h; exact h'
  | d :: ds, es, vs, ws, h, h' => by
    rw [reps_cons] at h
    obtain ⟨v, r, rfl, h1, h2⟩ := h
    exact reps_cons.mpr ⟨v, r ++ ws, rfl, h1, Reps.append h2 h'⟩
theorem Reps.take : ∀ {ds : List D} {vs : List V} (n : Nat), Reps G H vs ds → Reps G H (vs.take n) (ds.take n)
  | ds, vs, 0, h => by simp [reps_nil]
  | [], vs, n + 1, h => by rw [reps_nil] at h; subst h; simp [reps_nil]
  | d :: ds, vs, n + 1, h => by
    rw [reps_cons] at h
    obtain ⟨v, r, rfl, h1, h2⟩ := h
    exact reps_cons.mpr ⟨v, _, rfl, h1, Reps.take n h2⟩
theorem Reps.drop : ∀ {ds : List D} {vs : List V} (n : Nat), Reps G H vs ds → Reps G H (vs.drop n) (ds.drop n)
  | ds, vs, 0, h => h
  | [], vs, n + 1, h => by rw [reps_nil] at h; subst h; simp [reps_nil]
  | d :: ds, vs, n + 1, h => by
    rw [reps_cons] at h
    obtain ⟨v, r, rfl, h1, h2⟩ := h
    exact Reps.drop n h2
theorem Reps.set : ∀ {ds : List D} {vs : List V} (n : Nat) {d : D} {v : V}, Reps G H vs ds → Rep G H v d → Reps G H (vs.set n v) (ds.set n d)
  | [], vs, n, _, _, h, _ => by rw [reps_nil] at h; subst h; simp [reps_nil]
  | d :: ds, vs, n, e, w, h, hr => by
    rw [reps_cons] at h
    obtain ⟨v, r, rfl, h1, h2⟩ := h
    cases n with
    | zero => exact reps_cons.mpr ⟨w, r, rfl, hr, h2⟩
    | succ n => exact reps_cons.mpr ⟨v, _, rfl, h1, Reps.set n h2 hr⟩
theorem Reps.rev : ∀ {ds : List D} {vs : List V}, Reps G H vs ds → Reps G H vs.reverse ds.reverse
  | [], vs, h => by rw [reps_nil] at h; subst h; simp [reps_nil]
  | d :: ds, vs, h => by
    rw [reps_cons] at h
    obtain ⟨v, r, rfl, h1, h2⟩ := h
    rw [List.reverse_cons, List.reverse_cons]
    exact (Reps.rev h2).append (reps_cons.mpr ⟨v, [], rfl, h1, by rw [reps_nil]⟩)
theorem Reps.dropLast {ds : List D} {vs : List V} (h : Reps G H vs ds) : Reps G H vs.dropLast ds.dropLast := by
  rw [List.dropLast_eq_take, List.dropLast_eq_take, h.length]
  exact h.take _
theorem Reps.repl {ds : List D} {vs : List V} (h : Reps G H vs ds) : ∀ n : Nat, Reps G H (List.replicate n vs).flatten (List.replicate n ds).flatten
  | 0 => by simp [reps_nil]
  | n + 1 => by
    rw [List.replicate_succ, List.replicate_succ, List.flatten_cons, List.flatten_cons]
    exact h.append (h.repl n)
theorem Reps.cut {ds : List D} {vs : List V} (lo hi : Option Int) (h : Reps G H vs ds) : Reps G H (cutV vs lo hi) (cutD ds lo hi) := by
  unfold cutV cutD
  rw [h.length]
  exact (h.drop _).take _
theorem Reps.atI {ds : List D} {vs : List V} {k : Int} {d : D} (h : Reps G H vs ds) (e : L2.atI ds k = some d) : ∃ v, L2.atI vs k = some v ∧ Rep G H v d := by
  unfold L2.atI at *
  rw [h.length]
  cases q : ixN ds.length k with
  | none => rw [q] at e; simp at e
  | some j =>
    rw [q] at e
    simp only [Option.bind_some] at e ⊢
    exact h.get e
theorem allInt_of : ∀ {ds : List D} {ns : List Int} {vs : List V}, allInt ds = some ns → Reps G H vs ds → vs = ns.map V.int
  | [], ns, vs, e, h => by
    rw [reps_nil] at h
    simp only [allInt] at e
    cases e
    subst h
    rfl
  | d :: ds, ns, vs, e, h => by
    rw [reps_cons] at h
    obtain ⟨v, r, rfl, h1, h2⟩ := h
    cases d <;> simp only [allInt] at e <;> try cases e
    rename_i i
    cases q : allInt ds with
    | none => rw [q] at e; simp at e
    | some ms =>
      rw [q] at e
      simp at e
      subst e
      rw [rep_int] at h1
      subst h1
      rw [allInt_of q h2]
      rfl
theorem allBl_of : ∀ {ds : List D} {ns : List Bool} {vs : List V}, allBl ds = some ns → Reps G H vs ds → vs = ns.map V.bl
  | [], ns, vs, e, h => by
    rw [reps_nil] at h
    simp only [allBl] at e
    cases e
    subst h
    rfl
  | d :: ds, ns, vs, e, h => by
    rw [reps_cons] at h
    obtain ⟨v, r, rfl, h1, h2⟩ := h
    cases d <;> simp only [allBl] at e <;> try cases e
    rename_i i
    cases q : allBl ds with
    | none => rw [q] at e; simp at e
    | some ms =>
      rw [q] at e
      simp at e
      subst e
      rw [rep_bl] at h1
      subst h1
      rw [allBl_of q h2]
      rfl
mutual
theorem Rep.dp : ∀ (d : D) (v : V), Rep G H v d → d.toPy.canLay0 = true → Dp G.K H v d.toPy
  | .non, v, h, _ => by rw [rep_non] at h; subst h; rw [D.toPy]; exact .non
  | .bl _, v, h, _ => by rw [rep_bl] at h; subst h; rw [D.toPy]; exact .bl _
  | .int _, v, h, _ => by rw [rep_int] at h; subst h; rw [D.toPy]; exact .int _
  | .str _, v, h, _ => by rw [rep_str] at h; subst h; rw [D.toPy]; exact .str _
  | .fn _, v, h, c => by rw [D.toPy, PyData.canLay0] at c; cases c
  | .tup ds, v, h, c => by
    rw [rep_tup] at h
    obtain ⟨a, xs, rfl, q, r⟩ := h
    rw [D.toPy] at *
    rw [PyData.canLay0] at c
    exact .tup q (Reps.dp ds xs r c)
  | .ls ds, v, h, c => by
    rw [rep_ls] at h
    obtain ⟨a, xs, rfl, q, r⟩ := h
    rw [D.toPy] at *
    rw [PyData.canLay0] at c
    exact .lst q.seq (Reps.dp ds xs r c)
theorem Reps.dp : ∀ (ds : List D) (vs : List V), Reps G H vs ds → PyData.canLayAll0 (D.toPys ds) = true → DpAll G.K H vs (D.toPys ds)
  | [], vs, h, _ => by rw [reps_nil] at h; subst h; rw [D.toPys]; exact .nil
  | d :: ds, vs, h, c => by
    rw [reps_cons] at h
    obtain ⟨v, r, rfl, h1, h2⟩ := h
    rw [D.toPys] at *
    rw [PyData.canLayAll0, Bool.and_eq_true] at c
    exact .cons (Rep.dp d v h1 c.1) (Reps.dp ds r h2 c.2)
end
end
mutual
theorem eqv_py : ∀ (d e : D), d.toPy.canLay0 = true → e.toPy.canLay0 = true → D.eqv d e = PyData.eqv d.toPy e.toPy
  | .fn _, e, c, _ => by rw [D.toPy, PyData.canLay0] at c; cases c
  | .non, e, _, c => by cases e <;> first | rfl | (rw [D.toPy, PyData.canLay0] at c; cases c) | simp [D.toPy, D.eqv, PyData.eqv]
  | .bl _, e, _, c => by cases e <;> first | rfl | (rw [D.toPy, PyData.canLay0] at c; cases c) | simp [D.toPy, D.eqv, PyData.eqv]
  | .int _, e, _, c => by cases e <;> first | rfl | (rw [D.toPy, PyData.canLay0] at c; cases c) | simp [D.toPy, D.eqv, PyData.eqv]
  | .str _, e, _, c => by cases e <;> first | rfl | (rw [D.toPy, PyData.canLay0] at c; cases c) | simp [D.toPy, D.eqv, PyData.eqv]
  | .tup ds, e, c1, c => by
    cases e with
    | tup es =>
      rw [D.toPy, PyData.canLay0] at c1 c
      rw [D.eqv, D.toPy, D.toPy, PyData.eqv]
      exact eqvs_py ds es c1 c
    | fn _ => rw [D.toPy, PyData.canLay0] at c; cases c
    | _ => simp [D.toPy, D.eqv, PyData.eqv]
  | .ls ds, e, c1, c => by
    cases e with
    | ls es =>
      rw [D.toPy, PyData.canLay0] at c1 c
      rw [D.eqv, D.toPy, D.toPy, PyData.eqv]
      exact eqvs_py ds es c1 c
    | fn _ => rw [D.toPy, PyData.canLay0] at c; cases c
    | _ => simp [D.toPy, D.eqv, PyData.eqv]
theorem eqvs_py : ∀ (ds es : List D), PyData.canLayAll0 (D.toPys ds) = true → PyData.canLayAll0 (D.toPys es) = true → D.eqvs ds es = PyData.eqvAll (D.toPys ds) (D.toPys es)
  | [], [], _, _ => by simp [D.eqvs, D.toPys, PyData.eqvAll]
  | [], _ :: _, _, _ => by simp [D.eqvs, D.toPys, PyData.eqvAll]
  | _ :: _, [], _, _ => by simp [D.eqvs, D.toPys, PyData.eqvAll]
  | d :: ds, e :: es, c1, c2 => by
    rw [D.toPys, PyData.canLayAll0, Bool.and_eq_true] at c1 c2
    rw [D.eqvs, D.toPys, D.toPys, PyData.eqvAll, eqv_py d e c1.1 c2.1, eqvs_py ds es c1.2 c2.2]
end

def Slot.isMut : Slot → Bool
  | .own _ => true
  | .io _ => true
  | _ => false
abbrev Sg := L2.St
def SlotOk (G : Gh) (H : Hp) (σ : Sg) (i : Nat) : Slot → Prop
  | .nil => True
  | .val d => ∃ v, σ[i]? = some (some v) ∧ Rep G.toRc H v d
  | .own ds => ∃ a xs, σ[i]? = some (some (.ref a)) ∧ H a = some (.lst xs) ∧ Reps G.toRc H xs ds ∧ G.H0 a = none
  | .io ds => ∃ a xs, σ[i]? = some (some (.ref a)) ∧ H a = some (.lst xs) ∧ Reps G.toRc H xs ds ∧ (i, a) ∈ G.io
def MutAt (env : En) (σ : Sg) (a : Addr) : Prop := ∃ (i : Nat) (s : Slot), env[i]? = some s ∧ s.isMut = true ∧ σ[i]? = some (some (V.ref a))
structure EnvOk (G : Gh) (env : En) (σ : Sg) (H : Hp) : Prop where
  len : env.length = σ.length
  slot : ∀ (i : Nat) (s : Slot), env[i]? = some s → SlotOk G H σ i s
  sep : ∀ (i j : Nat) (s t : Slot) (a : Addr), env[i]? = some s → env[j]? = some t → s.isMut = true → t.isMut = true → σ[i]? = some (some (V.ref a)) → σ[j]? = some (some (V.ref a)) → i = j
  fr : ∀ a o, G.H0 a = some o → a ∉ G.io.map (·.2) → H a = some o
  iok : ∀ p ∈ G.io, ∃ ds, env[p.1]? = some (Slot.io ds) ∧ σ[p.1]? = some (some (V.ref p.2))
structure Fr (env : En) (σ : Sg) (H H' : Hp) : Prop where
  keep : ∀ a o, H a = some o → ¬ MutAt env σ a → H' a = some o
  trk : ∀ a, H' a = none → H a = none
abbrev Ext (H H' : Hp) : Prop := ∀ a o, H a = some o → H' a = some o
structure Post (G : Gh) (env : En) (σ : Sg) (H : Hp) (env' : En) (H' : Hp) : Prop where
  ok : EnvOk G env' σ H'
  fr : Fr env σ H H'
  sub : ∀ (i : Nat) (s : Slot), env'[i]? = some s → s.isMut = true → ∃ s0, env[i]? = some s0 ∧ s0.isMut = true
section
variable {G : Gh} {env env1 env2 : En} {σ : Sg} {H H1 H2 : Hp} {a : Addr}
theorem MutAt.lst (E : EnvOk G env σ H) (m : MutAt env σ a) : ∃ xs, H a = some (.lst xs) := by
  obtain ⟨i, s, e, hm, q⟩ := m
  have z := E.slot i s e
  cases s with
  | nil => cases hm
  | val d => cases hm
  | own ds =>
    obtain ⟨a', xs, q', h, _⟩ := z
    rw [q] at q'; cases q'
    exact ⟨xs, h⟩
  | io ds =>
    obtain ⟨a', xs, q', h, _⟩ := z
    rw [q] at q'; cases q'
    exact ⟨xs, h⟩
theorem Fr.kp (E : EnvOk G env σ H) (f : Fr env σ H H1) : Kp H H1 := by
  refine ⟨fun a xs h => f.keep a _ h fun m => ?_, fun a o u h => f.keep a _ h fun m => ?_⟩
  · obtain ⟨ys, q⟩ := m.lst E
    rw [h] at q; cases q
  · obtain ⟨ys, q⟩ := m.lst E
    rw [h] at q; cases q
theorem Fr.refl : Fr env σ H H := ⟨fun _ _ h _ => h, fun _ h => h⟩
theorem Ext.kp (x : Ext H H1) : Kp H H1 := ⟨fun a xs h => x a _ h, fun a o u h => x a _ h⟩
theorem Ext.none (x : Ext H H1) (h : H1 a = Option.none) : H a = Option.none := by
  cases q : H a with
  | none => rfl
  | some o => rw [x a o q] at h; cases h
theorem SlotOk.ext {i : Nat} {s : Slot} (x : Ext H H1) (h : SlotOk G H σ i s) : SlotOk G H1 σ i s := by
  cases s with
  | nil => trivial
  | val d =>
    obtain ⟨v, e, r⟩ := h
    exact ⟨v, e, r.keep x.kp⟩
  | own ds =>
    obtain ⟨a, xs, e, h1, r, z⟩ := h
    exact ⟨a, xs, e, x a _ h1, r.keep x.kp, z⟩
  | io ds =>
    obtain ⟨a, xs, e, h1, r, z⟩ := h
    exact ⟨a, xs, e, x a _ h1, r.keep x.kp, z⟩
theorem EnvOk.ext (E : EnvOk G env σ H) (x : Ext H H1) : EnvOk G env σ H1 :=
  ⟨E.len, fun i s e => (E.slot i s e).ext x, E.sep, fun a o h n => x a o (E.fr a o h n), E.iok⟩
theorem Post.mut (p : Post G env σ H env1 H1) (m : MutAt env1 σ a) : MutAt env σ a := by
  obtain ⟨i, s, e, hm, q⟩ := m
  obtain ⟨s0, e0, m0⟩ := p.sub i s e hm
  exact ⟨i, s0, e0, m0, q⟩
theorem Post.refl (E : EnvOk G env σ H) : Post G env σ H env H := ⟨E, Fr.refl, fun i s e m => ⟨s, e, m⟩⟩
theorem Post.trans (p : Post G env σ H env1 H1) (q : Post G env1 σ H1 env2 H2) : Post G env σ H env2 H2 :=
  ⟨q.ok, ⟨fun a o h m => q.fr.keep a o (p.fr.keep a o h m) fun z => m (p.mut z), fun a h => p.fr.trk a (q.fr.trk a h)⟩, fun i s e m => by
    obtain ⟨s1, e1, m1⟩ := q.sub i s e m
    exact p.sub i s1 e1 m1⟩
theorem Post.ext (p : Post G env σ H env1 H1) (x : Ext H1 H2) : Post G env σ H env1 H2 :=
  ⟨p.ok.ext x, ⟨fun a o h m => x a o (p.fr.keep a o h m), fun a h => p.fr.trk a (x.none h)⟩, p.sub⟩
theorem Post.of_ext (E : EnvOk G env σ H) (x : Ext H H1) : Post G env σ H env H1 := (Post.refl E).ext x
theorem EnvOk.fresh (E : EnvOk G env σ H) (h : H a = none) : G.H0 a = none := by
  cases q : G.H0 a with
  | none => rfl
  | some o =>
    by_cases m : a ∈ G.io.map (·.2)
    · obtain ⟨p, hp, rfl⟩ := List.mem_map.mp m
      obtain ⟨ds, e, es⟩ := E.iok p hp
      obtain ⟨a', xs, e', h', _⟩ := E.slot _ _ e
      rw [es] at e'; cases e'
      rw [h] at h'; cases h'
    · rw [E.fr a o q m] at h; cases h
end
end Pi

-- PiExpr
set_option maxHeartbeats 1000000
namespace Pi
open PySem PySem.Spec PyProof.Rows L2

theorem bindV_some {β : Type} {x : Option (Slot × En)} {f : D → En → Option β} {r : β} (h : bindV x f = some r) : ∃ s d e, x = some (s, e) ∧ s.toD = some d ∧ f d e = some r := by
  unfold bindV at h
  split at h
  · exact ⟨_, _, _, rfl, rfl, h⟩
  · exact ⟨_, _, _, rfl, rfl, h⟩
  · cases h
theorem bindB_some' {β : Type} {x : Option (Bool × En)} {f : Bool → En → Option β} {r : β} (h : bindB x f = some r) : ∃ b e, x = some (b, e) ∧ f b e = some r := by
  unfold bindB at h
  split at h
  · exact ⟨_, _, rfl, h⟩
  · cases h
theorem bindDs_some' {β : Type} {x : Option (List D × En)} {f : List D → En → Option β} {r : β} (h : bindDs x f = some r) : ∃ b e, x = some (b, e) ∧ f b e = some r := by
  unfold bindDs at h
  split at h
  · exact ⟨_, _, rfl, h⟩
  · cases h
theorem bindSs_some' {β : Type} {x : Option (List Slot × En)} {f : List Slot → En → Option β} {r : β} (h : bindSs x f = some r) : ∃ b e, x = some (b, e) ∧ f b e = some r := by
  unfold bindSs at h
  split at h
  · exact ⟨_, _, rfl, h⟩
  · cases h
theorem map_some' {α β : Type} {x : Option α} {f : α → β} {r : β} (h : x.map f = some r) : ∃ a, x = some a ∧ f a = r := by
  cases x with
  | none => cases h
  | some a => exact ⟨a, rfl, by simpa using h⟩

section
variable {X : Cx} {G : Gh} {cl : Oracle} {e : Expr}
theorem pe_imp {t t' : TE} (h : PE X e t) (f : ∀ σ H Q, t' σ H Q → t σ H Q) : PE X e t' := ⟨fun pins s σ H Q I q => h.run pins s σ H Q I (f σ H Q q)⟩
theorem pt_imp {t t' : TT} (h : PT X e t) (f : ∀ σ H Q, t' σ H Q → t σ H Q) : PT X e t' := ⟨fun pins s σ H Q I q => h.run pins s σ H Q I (f σ H Q q)⟩
theorem pa_imp {es : List Expr} {t t' : TA} (h : PA X es t) (f : ∀ σ H Q, t' σ H Q → t σ H Q) : PA X es t' := ⟨fun pos pins s σ H Q I q => h.run pos pins s σ H Q I (f σ H Q q)⟩

def SlotRep (G : Gh) (H H' : Hp) : Slot → V → Prop
  | .val d, v => Rep G.toRc H' v d
  | .own ds, v => ∃ a xs, v = .ref a ∧ H a = none ∧ H' a = some (.lst xs) ∧ Reps G.toRc H' xs ds
  | _, _ => False
theorem sr_bl {H H' : Hp} {b : Bool} : SlotRep G H H' (.val (.bl b)) (.bl b) := show Rep G.toRc H' (.bl b) (.bl b) from rep_bl.mpr rfl
theorem sr_int {H H' : Hp} {b : Int} : SlotRep G H H' (.val (.int b)) (.int b) := show Rep G.toRc H' (.int b) (.int b) from rep_int.mpr rfl
theorem sr_non {H H' : Hp} : SlotRep G H H' (.val .non) .non := show Rep G.toRc H' .non .non from rep_non.mpr rfl
theorem sr_val {H H' : Hp} {d : D} {v : V} (h : Rep G.toRc H' v d) : SlotRep G H H' (.val d) v := h
def tE (G : Gh) (cl : Oracle) (c : CE) : TE := fun σ H Q => ∃ env s env', EnvOk G env σ H ∧ evalE cl c env = some (s, env') ∧ ∀ v H', Post G env σ H env' H' → SlotRep G H H' s v → Q v H'
def tV (G : Gh) (cl : Oracle) (c : CE) : TE := fun σ H Q => ∃ env s env' d, EnvOk G env σ H ∧ evalE cl c env = some (s, env') ∧ s.toD = some d ∧ ∀ v H', Post G env σ H env' H' → Rep G.toRc H' v d → Q v H'
def tT (G : Gh) (cl : Oracle) (c : CE) : TT := fun σ H Q => ∃ env b env', EnvOk G env σ H ∧ evalT cl c env = some (b, env') ∧ ∀ H', Post G env σ H env' H' → Q b H'

theorem Kp.put {H : Hp} {a : Addr} {xs : List V} {o : HO} (h : H a = some (.lst xs)) : Kp H (upd H a o) := by
  refine ⟨fun b ys q => ?_, fun b ob u q => ?_⟩
  · rw [upd_ne (fun z => by rw [z, h] at q; cases q)]; exact q
  · rw [upd_ne (fun z => by rw [z, h] at q; cases q)]; exact q
theorem upd_trk {H : Hp} {a b : Addr} {o : HO} (h : upd H a o b = none) : H b = none := by
  unfold upd at h
  split at h
  · cases h
  · exact h
theorem slot_put {H : Hp} {a : Addr} {xs : List V} {o : HO} {σ : Sg} {i : Nat} {s : Slot} (h : H a = some (.lst xs)) (n : s.isMut = true → σ[i]? ≠ some (some (V.ref a))) (q : SlotOk G H σ i s) : SlotOk G (upd H a o) σ i s := by
  cases s with
  | nil => trivial
  | val d =>
    obtain ⟨v, e, r⟩ := q
    exact ⟨v, e, r.keep (Kp.put h)⟩
  | own ds =>
    obtain ⟨b, ys, e, h1, r, z⟩ := q
    have nb : b ≠ a := fun w => n rfl (by rw [← w]; exact e)
    exact ⟨b, ys, e, by rw [upd_ne nb]; exact h1, r.keep (Kp.put h), z⟩
  | io ds =>
    obtain ⟨b, ys, e, h1, r, z⟩ := q
    have nb : b ≠ a := fun w => n rfl (by rw [← w]; exact e)
    exact ⟨b, ys, e, by rw [upd_ne nb]; exact h1, r.keep (Kp.put h), z⟩
theorem EnvOk.other {env : En} {σ : Sg} {H : Hp} {a : Addr} {xs : List V} {o : HO} (E : EnvOk G env σ H) (h : H a = some (.lst xs)) (n : ¬ MutAt env σ a) (z : G.H0 a = none) : EnvOk G env σ (upd H a o) := by
  refine ⟨E.len, fun i s e => slot_put h (fun m q => n ⟨i, s, e, m, q⟩) (E.slot i s e), E.sep, fun b ob q nb => ?_, E.iok⟩
  rw [upd_ne (fun w => by rw [w, z] at q; cases q)]
  exact E.fr b ob q nb
theorem EnvOk.put {env : En} {σ : Sg} {H : Hp} {i : Nat} {s s' : Slot} {a : Addr} {o : HO} (E : EnvOk G env σ H) (he : env[i]? = some s) (hm : s.isMut = true) (hσ : σ[i]? = some (some (V.ref a))) (hs : SlotOk G (upd H a o) σ i s')
    (hio : ∀ ds, s = .io ds → ∃ ds', s' = .io ds') : EnvOk G (env.set i s') σ (upd H a o) := by
  obtain ⟨xs, h⟩ := MutAt.lst E ⟨i, s, he, hm, hσ⟩
  have hi : i < env.length := (List.getElem?_eq_some_iff.mp he).1
  have old : ∀ j t, (env.set i s')[j]? = some t → (j = i ∧ t = s') ∨ (j ≠ i ∧ env[j]? = some t) := fun j t e => by
    by_cases hj : j = i
    · subst hj
      rw [List.getElem?_set_self hi] at e
      exact .inl ⟨rfl, (Option.some.inj e).symm⟩
    · rw [List.getElem?_set_ne (Ne.symm hj)] at e
      exact .inr ⟨hj, e⟩
  refine ⟨by rw [List.length_set]; exact E.len, fun j t e => ?_, fun j k t u b e1 e2 m1 m2 q1 q2 => ?_, fun b ob q nb => ?_, fun p hp => ?_⟩
  · rcases old j t e with ⟨rfl, rfl⟩ | ⟨hj, e⟩
    · exact hs
    · exact slot_put h (fun m q => hj (E.sep j i t s a e he m hm q hσ)) (E.slot j t e)
  · rcases old j t e1 with ⟨ej, et⟩ | ⟨hj, f1⟩
    · rcases old k u e2 with ⟨ek, eu⟩ | ⟨hk, f2⟩
      · rw [ej, ek]
      · rw [ej] at q1 ⊢
        exact E.sep i k s u b he f2 hm m2 q1 q2
    · rcases old k u e2 with ⟨ek, eu⟩ | ⟨hk, f2⟩
      · rw [ek] at q2 ⊢
        exact E.sep j i t s b f1 he m1 hm q1 q2
      · exact E.sep j k t u b f1 f2 m1 m2 q1 q2
  · have z := E.slot i s he
    have nba : b ≠ a := fun w => by
      subst w
      cases s with
      | nil => cases hm
      | val d => cases hm
      | own ds =>
        obtain ⟨c, ys, e, _, _, z⟩ := z
        rw [hσ] at e; cases e
        rw [q] at z; cases z
      | io ds =>
        obtain ⟨c, ys, e, _, _, z⟩ := z
        rw [hσ] at e; cases e
        exact nb (List.mem_map.mpr ⟨_, z, rfl⟩)
    rw [upd_ne nba]
    exact E.fr b ob q nb
  · obtain ⟨ds, e, q⟩ := E.iok p hp
    by_cases hj : p.1 = i
    · rw [hj, he] at e
      obtain ⟨ds', e'⟩ := hio ds (Option.some.inj e)
      exact ⟨ds', by rw [hj, List.getElem?_set_self hi, e'], q⟩
    · exact ⟨ds, by rw [List.getElem?_set_ne (Ne.symm hj)]; exact e, q⟩
theorem mutAt_set {env : En} {σ : Sg} {i : Nat} {s s' : Slot} {a : Addr} (he : env[i]? = some s) (hm : s.isMut = true) (m : MutAt (env.set i s') σ a) : MutAt env σ a := by
  obtain ⟨j, t, e, mt, q⟩ := m
  have hi : i < env.length := (List.getElem?_eq_some_iff.mp he).1
  by_cases hj : j = i
  · subst hj
    exact ⟨j, s, he, hm, q⟩
  · rw [List.getElem?_set_ne (Ne.symm hj)] at e
    exact ⟨j, t, e, mt, q⟩
theorem Post.put {env : En} {σ : Sg} {H : Hp} {i : Nat} {s s' : Slot} {a : Addr} {o : HO} (E : EnvOk G env σ H) (he : env[i]? = some s) (hm : s.isMut = true) (hσ : σ[i]? = some (some (V.ref a))) (hs : SlotOk G (upd H a o) σ i s')
    (hio : ∀ ds, s = .io ds → ∃ ds', s' = .io ds') : Post G env σ H (env.set i s') (upd H a o) :=
  ⟨E.put he hm hσ hs hio, ⟨fun b ob q n => by rw [upd_ne (fun w => n (by rw [w]; exact ⟨i, s, he, hm, hσ⟩))]; exact q, fun b q => upd_trk q⟩, fun j t e m => by
    by_cases hj : j = i
    · rw [hj]
      exact ⟨s, he, hm⟩
    · rw [List.getElem?_set_ne (Ne.symm hj)] at e
      exact ⟨t, e, m⟩⟩

theorem pe_val {c : CE} (h : PE X e (tE G cl c)) : PE X e (tV G cl c) := by
  refine ⟨fun pins s σ H Q I hq => ?_⟩
  obtain ⟨env, sl, env', d, E, ev, hd, q⟩ := hq
  refine thn (h.run pins s σ H (fun v H' => Post G env σ H env' H' ∧ SlotRep G H H' sl v) I ⟨env, sl, env', E, ev, fun v H' p r => ⟨p, r⟩⟩) fun u s1 ⟨v, H1, I1, r1, p, sr⟩ => ?_
  cases sl with
  | nil => cases hd
  | io ds => cases hd
  | val d' =>
    cases hd
    exact ⟨v, H1, I1, r1, q v H1 p sr⟩
  | own ds =>
    cases hd
    obtain ⟨a, xs, rfl, hn, ha, rs⟩ := sr
    obtain ⟨o, I2⟩ := I1.lock ha trivial
    have nm : ¬ MutAt env' σ a := fun m => by
      obtain ⟨ys, z⟩ := (p.mut m).lst E
      rw [hn] at z; cases z
    refine ⟨.ref a, _, I2, r1, q _ _ ⟨p.ok.other ha nm (E.fresh hn), ⟨fun b ob z m => ?_, fun b z => p.fr.trk b (upd_trk z)⟩, p.sub⟩ (rep_ls.mpr ⟨a, xs, rfl, .inl ⟨o, upd_same⟩, rs.keep (Kp.put ha)⟩)⟩
    rw [upd_ne (fun w => by rw [w, hn] at z; cases z)]
    exact p.fr.keep b ob z m

theorem c_var {i : Nat} {x : Str} {pos : Pos} (hN : X.N[i]? = some x) (hv : Vis X.env.scope x) (hd : (x == ("__debug__" : Str)) = false) (hcd : (x == ("__classdict__" : Str)) = false) : PE X (.Name x pos) (tE G cl (.var i)) := by
  have base : PE X (.Name x pos) (tVar i) := pe_var hN hv hd hcd
  refine ⟨fun pins s σ H Q I hq => ?_⟩
  obtain ⟨env, sl, env', E, ev, q⟩ := hq
  rw [evalE] at ev
  split at ev
  · rename_i d he
    cases ev
    obtain ⟨v, e, r⟩ := E.slot i _ he
    exact base.run pins s σ H Q I ⟨v, e, q v H (Post.refl E) r⟩
  · rename_i ds he
    cases ev
    obtain ⟨a, xs, e, ha, r, z⟩ := E.slot i _ he
    obtain ⟨o, I2⟩ := I.lock ha trivial
    have rr : Rep G.toRc (upd H a (.frz o (.lst xs))) (.ref a) (.ls ds) := rep_ls.mpr ⟨a, xs, rfl, .inl ⟨o, upd_same⟩, r.keep (Kp.put ha)⟩
    exact base.run pins s σ _ Q I2 ⟨.ref a, e, q _ _ (Post.put E he rfl e ⟨_, e, rr⟩ (fun ds h => by cases h)) rr⟩
  · cases ev
theorem c_cst {t : V} {d : D} (h : PE X e (tC t)) (r : ∀ H, Rep G.toRc H t d) : PE X e (tE G cl (.cst d)) := pe_imp h fun σ H Q ⟨env, sl, env', E, ev, q⟩ => by
  rw [evalE] at ev
  cases ev
  exact q t H (Post.refl E) (r H)
theorem c_gc {t : V} {d : D} {x : Str} (h : PE X e (tC t)) (r : ∀ H, Rep G.toRc H t d) : PE X e (tE G cl (.gc x d)) := pe_imp h fun σ H Q ⟨env, sl, env', E, ev, q⟩ => by
  rw [evalE] at ev
  cases ev
  exact q t H (Post.refl E) (r H)
theorem c_gf {t : V} {j : Nat} {x : Str} (h : PE X e (tC t)) (r : ∀ H, Rep G.toRc H t (.fn j)) : PE X e (tE G cl (.gf x j)) := pe_imp h fun σ H Q ⟨env, sl, env', E, ev, q⟩ => by
  rw [evalE] at ev
  cases ev
  exact q t H (Post.refl E) (r H)

def Res (R : Rc) (H : Hp) (s : Slot) (Q : VK) : Prop := ∀ v H', Ext H H' → (match s with
  | .val d => Rep R H' v d
  | .own ds => ∃ a xs, v = .ref a ∧ H a = none ∧ H' a = some (.lst xs) ∧ Reps R H' xs ds
  | _ => False) → Q v H'
def rB (R : Rc) (o : BOp) : R2 := fun v w H Q => ∃ x y s, Rep R H v x ∧ Rep R H w y ∧ evalBin o x y = some s ∧ Res R H s Q
theorem Ext.refl (H : Hp) : Ext H H := fun _ _ h => h
theorem Ext.new {H : Hp} {p : Addr} {o : HO} (h : H p = Option.none) : Ext H (upd H p o) := fun a u e => by
  rw [upd_ne (ne_of_none e h)]
  exact e
theorem Res.of {env env' : En} {σ : Sg} {H H1 : Hp} {s : Slot} {Q : VK} (E : EnvOk G env σ H) (p : Post G env σ H env' H1) (q : ∀ v H', Post G env σ H env' H' → SlotRep G H H' s v → Q v H') : Res G.toRc H1 s Q := fun v H' x r => by
  refine q v H' (p.ext x) ?_
  cases s with
  | val d => exact r
  | own ds =>
    obtain ⟨a, xs, e, hn, ha, rs⟩ := r
    exact ⟨a, xs, e, p.fr.trk a hn, ha, rs⟩
  | _ => exact r
theorem c_bin {a b : Expr} {ca cb : CE} {o : BOp} {op : Operator} {pos : Pos} (ho : OpR X (binaryOp op) (rB G.toRc o)) (ha : PE X a (tE G cl ca)) (hb : PE X b (tE G cl cb)) : PE X (.BinOp a op b pos) (tE G cl (.bin o ca cb)) :=
  pe_imp (pe_op ho (pe_val ha) (pe_val hb)) fun σ H Q ⟨env, sl, env', E, ev, q⟩ => by
    rw [evalE] at ev
    obtain ⟨s1, x, e1, ev1, d1, ev⟩ := bindV_some ev
    obtain ⟨s2, y, e2, ev2, d2, ev⟩ := bindV_some ev
    obtain ⟨s3, ev3, h3⟩ := map_some' ev
    cases h3
    refine ⟨env, s1, e1, x, E, ev1, d1, fun v H1 p1 r1 => ?_⟩
    refine ⟨e1, s2, _, y, p1.ok, ev2, d2, fun w H2 p2 r2 => ?_⟩
    exact ⟨x, y, _, r1.keep (p2.fr.kp p1.ok), r2, ev3, Res.of E (p1.trans p2) q⟩
def rU1 (R : Rc) (f : D → Option Slot) : V → Hp → VK → Prop := fun v H Q => ∃ x s, Rep R H v x ∧ f x = some s ∧ Res R H s Q
theorem c_neg {a : Expr} {ca : CE} {pos : Pos} (ha : PE X a (tE G cl ca)) : PE X (.UnaryOp .USub a pos) (tE G cl (.neg ca)) :=
  pe_imp (pe_un un_neg (pe_val ha)) fun σ H Q ⟨env, sl, env', E, ev, q⟩ => by
    rw [evalE] at ev
    obtain ⟨s1, x, e1, ev1, d1, ev⟩ := bindV_some ev
    cases x <;> try cases ev
    rename_i i
    refine ⟨env, s1, _, _, E, ev1, d1, fun v H1 p1 r1 => ?_⟩
    exact ⟨i, rep_int.mp r1, q _ H1 p1 sr_int⟩
def rC (R : Rc) (o : COp) : R2 := fun v w H Q => ∃ x y b, Rep R H v x ∧ Rep R H w y ∧ evalCmp o x y = some b ∧ Q (.bl b) H
theorem c_cmp {a b : Expr} {ca cb : CE} {o : COp} {op : CmpOp} {pos : Pos} (ho : OpR X (compareOp op) (rC G.toRc o)) (hm : behindInMarks op b = false) (ha : PE X a (tE G cl ca)) (hb : PE X b (tE G cl cb)) : PE X (.Compare a [op] [b] pos) (tE G cl (.cmp o ca cb)) :=
  pe_imp (pe_cmpR ho (pe_val ha) (pe_val hb) hm) fun σ H Q ⟨env, sl, env', E, ev, q⟩ => by
    rw [evalE] at ev
    obtain ⟨s1, x, e1, ev1, d1, ev⟩ := bindV_some ev
    obtain ⟨s2, y, e2, ev2, d2, ev⟩ := bindV_some ev
    obtain ⟨s3, ev3, h3⟩ := map_some' ev
    cases h3
    refine ⟨env, s1, e1, x, E, ev1, d1, fun v H1 p1 r1 => ?_⟩
    refine ⟨e1, s2, _, y, p1.ok, ev2, d2, fun w H2 p2 r2 => ?_⟩
    exact ⟨x, y, _, r1.keep (p2.fr.kp p1.ok), r2, ev3, q _ H2 (p1.trans p2) sr_bl⟩
theorem c_chain {a b c : Expr} {ca cb cc : CE} {o o' : COp} {op op' : CmpOp} {pos : Pos} (ho : OpR X (compareOp op) (rC G.toRc o)) (ho' : OpR X (compareOp op') (rC G.toRc o')) (hm : lastMarks [op, op'] [b, c] = false) (ha : PE X a (tE G cl ca)) (hb : PE X b (tE G cl cb)) (hc : PE X c (tE G cl cc))
    (base : PE X (.Compare a [op, op'] [b, c] pos) (tChain (rC G.toRc o) (rC G.toRc o') (tV G cl ca) (tV G cl cb) (tV G cl cc))) : PE X (.Compare a [op, op'] [b, c] pos) (tE G cl (.chain o o' ca cb cc)) :=
  pe_imp base fun σ H Q ⟨env, sl, env', E, ev, q⟩ => by
    rw [evalE] at ev
    obtain ⟨s1, x, e1, ev1, d1, ev⟩ := bindV_some ev
    obtain ⟨s2, y, e2, ev2, d2, ev⟩ := bindV_some ev
    refine ⟨env, s1, e1, x, E, ev1, d1, fun v H1 p1 r1 => ?_⟩
    refine ⟨e1, s2, _, y, p1.ok, ev2, d2, fun w H2 p2 r2 => ?_⟩
    split at ev
    · rename_i hcmp
      obtain ⟨s3, z, e3, ev3, d3, ev⟩ := bindV_some ev
      obtain ⟨s4, ev4, h4⟩ := map_some' ev
      cases h4
      refine ⟨x, y, true, r1.keep (p2.fr.kp p1.ok), r2, hcmp, true, rfl, ?_⟩
      refine ⟨e2, s3, _, z, p2.ok, ev3, d3, fun w3 H3 p3 r3 => ?_⟩
      exact ⟨y, z, _, r2.keep (p3.fr.kp p2.ok), r3, ev4, q _ H3 ((p1.trans p2).trans p3) sr_bl⟩
    · rename_i hcmp
      cases ev
      refine ⟨x, y, false, r1.keep (p2.fr.kp p1.ok), r2, hcmp, false, rfl, ?_⟩
      exact q _ H2 (p1.trans p2) sr_bl
    · cases ev
end
end Pi

-- PiOps
set_option maxHeartbeats 1000000
namespace Pi
open PySem PySem.Spec PyProof.Rows L2

theorem Res.int {R : Rc} {H : Hp} {i : Int} {Q : VK} (q : Res R H (.val (.int i)) Q) : Q (.int i) H := q _ H (Ext.refl H) (show Rep R H (.int i) (.int i) from rep_int.mpr rfl)
theorem Res.str {R : Rc} {H : Hp} {i : Str} {Q : VK} (q : Res R H (.val (.str i)) Q) : Q (.str i) H := q _ H (Ext.refl H) (show Rep R H (.str i) (.str i) from rep_str.mpr rfl)
theorem Res.bl {R : Rc} {H : Hp} {i : Bool} {Q : VK} (q : Res R H (.val (.bl i)) Q) : Q (.bl i) H := q _ H (Ext.refl H) (show Rep R H (.bl i) (.bl i) from rep_bl.mpr rfl)
theorem Res.same {R : Rc} {H : Hp} {d : D} {v : V} {Q : VK} (q : Res R H (.val d) Q) (r : Rep R H v d) : Q v H := q _ H (Ext.refl H) (show Rep R H v d from r)
theorem Res.tup {R : Rc} {H : Hp} {ds : List D} {xs : List V} {Q : VK} (q : Res R H (.val (.tup ds)) Q) (r : Reps R H xs ds) {p : Addr} (n : H p = none) : Q (.ref p) (upd H p (.tup xs)) :=
  q _ _ (Ext.new n) (show Rep R _ (.ref p) (.tup ds) from rep_tup.mpr ⟨p, xs, rfl, .inl (.inl upd_same), r.keep (Ext.new n).kp⟩)
theorem Res.lst {R : Rc} {H : Hp} {ds : List D} {xs : List V} {Q : VK} (q : Res R H (.own ds) Q) (r : Reps R H xs ds) {p : Addr} (n : H p = none) : Q (.ref p) (upd H p (.lst xs)) :=
  q _ _ (Ext.new n) ⟨p, xs, rfl, n, upd_same, r.keep (Ext.new n).kp⟩

theorem fz_obj {X : Cx} {pins : List (Addr × Obj)} {σ : Sg} {H : Hp} {s : Shared} {a : Addr} {xs : List V} (I : Inv X pins σ H s) (h : Fz X.K H a xs) :
    xs.length ≤ sizeLine ∧ ∃ (us : List Value) (n : Nat) (sl : Array (Option Value)), Vals xs us ∧ us.length = xs.length ∧ s.heap.get? a = some { cls := .type "list", dict := none, data := .seq us.toArray n, slots := sl } := by
  obtain ⟨its, r, ⟨o, n, e, h1, h2, h3⟩, hz⟩ := I.list h.seq
  obtain ⟨cls, dd, data, sl⟩ := o
  simp only at h1 h2 h3
  subst h1 h2 h3
  exact ⟨hz, its, n, sl, r, r.length.symm, e⟩
theorem list_mulW (l : Addr) (items : Array Value) (n : Nat) (sl : Array (Option Value)) (x : Int) (u : Tok) (hc0 : ¬(!Builtin.List.listFitsIndex x) = true) (hc1 : ¬items.size * x.toNat > (2 ^ 63 - 1) / 8) (hc2 : ¬Builtin.List.listTooLong (items.size * x.toNat) = true) :
    Meets (Builtin.«list.__mul__» ⟨[.ref l, .int x u], []⟩) (fun _ R s => s.heap.get? l = some { cls := .type "list", dict := none, data := .seq items n, slots := sl } ∧ R (.ok (.ret (Value.ref s.heap.objs.size))) { s with heap := s.heap.push { cls := Value.type "list", data := Data.seq (List.foldl (fun x1 x2 => x1 ++ x2) #[] (List.replicate (if items.isEmpty = true then 0 else x.toNat) items)) }, toks := s.toks }) :=
  .of_wp fun prog w A R s h => by
    obtain ⟨hp, g, d, tk, os⟩ := s; obtain ⟨hl, h⟩ := h
    have hsz := PySem.AutoListH.joined_fits hc2
    wp_walk using wpAny_loadPart' hl; refine wpAny_ite_false (decide_eq_false (Nat.not_lt.mpr hsz)) ?_; wp_walk using wpAny_loadPart' hl; exact ⟨_, rfl, h⟩
theorem int_rmulW (a : Int) (t : Tok) (l : Addr) (items : Array Value) (n : Nat) (sl : Array (Option Value)) :
    Meets (Builtin.«int.__rmul__» ⟨[.int a t, .ref l], []⟩) (fun _ R s => s.heap.get? l = some { cls := .type "list", dict := none, data := .seq items n, slots := sl } ∧ R (.ok (.ret Value.notImplemented)) s) :=
  .of_wp fun prog w A R s h => by obtain ⟨hp, g, d, tk, os⟩ := s; obtain ⟨hl, h⟩ := h; wp_walk; exact ⟨_, rfl, h⟩
section
variable {X : Cx} {R : Rc}
theorem cat_fz {a b : Addr} {xs ys : List V} {pins : List (Addr × Obj)} {s : Shared} {σ : Sg} {H : Hp} {Q : VK} (I : Inv X pins σ H s) (ha : Fz X.K H a xs) (hb : Fz X.K H b ys) (hz : xs.length + ys.length ≤ sizeLine)
    (q : ∀ p, H p = none → Q (.ref p) (upd H p (.lst (xs ++ ys)))) : wpAny (model X.prog X.w) X.A (binaryOp .Add (.ref a) (.ref b)) (EP X pins σ Q) X.xe s := by
  obtain ⟨_, us, n, sl, r1, l1, e1⟩ := fz_obj I ha
  obtain ⟨_, ws, m, sl2, r2, l2, e2⟩ := fz_obj I hb
  refine concat_meets ⟨_, e1, rfl⟩ ⟨_, e2, rfl⟩ noFill_list_add seq_list_add PySem.F.slot_list_add PySem.F.entry_list_add (PySem.F.args_list_add_2 _ _) (list_addW a b us.toArray ws.toArray n m none none sl sl2 ?_) ⟨e1, e2, ?_⟩
  · rw [List.size_toArray, List.size_toArray, l1, l2]
    exact hz
  · rw [show us.toArray ++ ws.toArray = (us ++ ws).toArray by simp]
    have I2 := I.lnew (t' := s.toks) (r1.append r2) (by rw [List.length_append]; exact hz)
    exact ⟨V.ref _, _, I2, rfl, q _ I.fresh⟩
theorem rep_fz {a : Addr} {k : Int} {t : Tok} {xs : List V} {pins : List (Addr × Obj)} {s : Shared} {σ : Sg} {H : Hp} {Q : VK} (I : Inv X pins σ H s) (ha : Fz X.K H a xs) (h1 : -(2 ^ 63) ≤ k) (h2 : k < 2 ^ 63) (hz : xs.length * k.toNat ≤ sizeLine)
    (q : ∀ p, H p = none → Q (.ref p) (upd H p (.lst (List.replicate k.toNat xs).flatten))) : wpAny (model X.prog X.w) X.A (binaryOp .Mult (.ref a) (.int k t)) (EP X pins σ Q) X.xe s := by
  obtain ⟨hx, us, n, sl, rr, ll, ee⟩ := fz_obj I ha
  have z1 : us.toArray.size * k.toNat ≤ sizeLine := by
    rw [List.size_toArray, ll]
    exact hz
  have z2 : ¬ us.toArray.size * k.toNat > (2 ^ 63 - 1) / 8 := by
    have w : (sizeLine : Nat) ≤ (2 ^ 63 - 1) / 8 := by decide
    omega
  have z3 : ¬ (!Builtin.List.listFitsIndex k) = true := by
    rw [fitsIndex_both h1 h2]
    decide
  have z4 : ¬ Builtin.List.listTooLong (us.toArray.size * k.toNat) = true := by
    rw [notLongL z1]
    decide
  have z5 : List.foldl (fun x1 x2 => x1 ++ x2) #[] (List.replicate (if us.toArray.isEmpty = true then 0 else k.toNat) us.toArray) = (List.replicate k.toNat us).flatten.toArray := by
    rw [size_rep]
    cases us with
    | nil => simp
    | cons u r' => rw [if_neg (by simp)]
  refine wpAny_binaryOp_repeat_ref (T := "list") (U := "int") (by decide) ⟨_, ee, rfl⟩ (fun s' => typeIs_int s' k t) noFill_list_mul F.fills_int_mul F.slot_int_rmul repeat_list F.slot_int_index.lookup ?_
  refine call_meets F.slot_int_rmul (typeIs_int s k t) F.entry_int_rmul (F.args_int_rmul_2 _ _) (int_rmulW k t a us.toArray n sl) ⟨ee, rfl, ⟨_, ee, rfl⟩, ?_⟩
  refine call_meets F.slot_list_mul ⟨_, ee, rfl⟩ F.entry_list_mul (F.args_list_mul_2 _ _) (list_mulW a us.toArray n sl k t z3 z2 z4) ⟨ee, ?_⟩
  rw [z5]
  have I2 := I.lnew (t' := s.toks) (rr.rep k.toNat) (by rw [PyProof.Rows.lm_len_rep_flat, Nat.mul_comm]; exact hz)
  exact ⟨V.ref _, _, I2, rfl, q _ I.fresh⟩
end
end Pi

namespace Pi
open PySem PySem.Spec PyProof.Rows L2
theorem empty_mul (l : Addr) (n : Nat) (dd : Option Addr) (sl : Array (Option Value)) (x : Int) (u : Tok) (c0 : (decide (x < -(2 ^ 63)) || decide (x ≥ 2 ^ 63)) = false) :
    Meets (Builtin.«tuple.__mul__» ⟨[.ref l, .int x u], []⟩) (fun _ R s => s.heap.get? l = some { cls := .type "tuple", dict := dd, data := .seq #[] n, slots := sl } ∧ R (.ok (.ret (Value.ref l))) s) :=
  .of_wp fun prog w A R s h => by
    obtain ⟨hp, g, d, tk, os⟩ := s
    obtain ⟨hl, h⟩ := h
    have f1 := AutoSeq1.idx_int
    wp_walk using wpAny_loadPart' hl
    repeat (first
      | (refine wpAny_ite_false (decide_eq_false (by rw [c0]; exact Bool.false_ne_true)) ?_; wp_walk using wpAny_loadPart' hl)
      | (refine wpAny_ite_true (decide_eq_true (by simp)) ?_; wp_walk using wpAny_loadPart' hl))
    exact ⟨_, rfl, h⟩
end Pi

namespace Pi
open PySem PySem.Spec PyProof.Rows L2
section
variable {X : Cx} {R : Rc}
theorem rep_nil {l : Addr} {k : Int} {t : Tok} {pins : List (Addr × Obj)} {s : Shared} {σ : Sg} {H : Hp} {Q : VK} (I : Inv X pins σ H s) (hT : SqT X.K H l []) (h1 : 2 ≤ k) (h2 : k ≤ 1000)
    (q : Q (.ref l) H) : wpAny (model X.prog X.w) X.A (binaryOp .Mult (.ref l) (.int k t)) (EP X pins σ Q) X.xe s := by
  obtain ⟨us, rv, ⟨⟨cc, cd, ce, cf⟩, ho, hc, n, hd⟩, _⟩ := I.tuple hT
  cases rv
  simp only at hc hd
  subst hc hd
  have c0 : (decide (k < -(2 ^ 63)) || decide (k ≥ 2 ^ 63)) = false := by
    rw [Bool.or_eq_false_iff]
    exact ⟨decide_eq_false (by omega), decide_eq_false (by omega)⟩
  refine wpAny_binaryOp_repeat_ref (T := "tuple") (U := "int") (by decide) ⟨_, ho, rfl⟩ (fun s' => typeIs_int s' k t) noFill_tuple_mul F.fills_int_mul F.slot_int_rmul repeat_tuple F.slot_int_index.lookup ?_
  refine call_meets F.slot_int_rmul (typeIs_int s k t) F.entry_int_rmul (F.args_int_rmul_2 _ _) (int_rmul_tuple k t l #[] n cd cf) ⟨ho, rfl, ⟨_, ho, rfl⟩, ?_⟩
  refine call_meets F.slot_tuple_mul ⟨_, ho, rfl⟩ F.entry_tuple_mul (F.args_tuple_mul_2 _ _) (empty_mul l n cd cf k t c0) ⟨ho, ?_⟩
  exact ⟨.ref l, H, I, rfl, q⟩
theorem rb_add (hK : X.K = R.K) : OpR X (binaryOp .Add) (rB R .add) := by
  intro pins s σ H v w u1 u2 Q I rv rw h
  obtain ⟨x, y, sl, hx, hy, ev, q⟩ := h
  cases x <;> cases y <;> try (cases (show (none : Option Slot) = some sl from ev))
  · cases ev
    rw [rep_bl.mp hx] at rv
    rw [rep_int.mp hy] at rw
    cases rv
    obtain ⟨t, rfl⟩ := rw
    exact PySem.IntBool.add_bool_int ⟨.int _, H, I.tok _, ⟨_, rfl⟩, q.int⟩
  · cases ev
    rw [rep_int.mp hx] at rv
    rw [rep_bl.mp hy] at rw
    cases rw
    obtain ⟨t, rfl⟩ := rv
    exact PySem.add_int_bool ⟨.int _, H, I.tok _, ⟨_, rfl⟩, q.int⟩
  · cases ev
    exact op_add pins s σ H v w u1 u2 Q I rv rw ⟨_, _, rep_int.mp hx, rep_int.mp hy, q.int⟩
  · simp only [evalBin] at ev
    split at ev
    · rename_i hz
      cases ev
      exact op_add_str pins s σ H v w u1 u2 Q I rv rw ⟨_, _, rep_str.mp hx, rep_str.mp hy, hz, q.str⟩
    · cases ev
  · simp only [evalBin] at ev
    split at ev
    · rename_i hz
      cases ev
      obtain ⟨a, xs, ea, qa, ra⟩ := rep_tup.mp hx
      obtain ⟨b, ys, eb, qb, rb⟩ := rep_tup.mp hy
      rw [← hK] at qa qb
      refine op_catA pins s σ H v w u1 u2 Q I rv rw ⟨a, b, xs, ys, ea, eb, qa, qb, by rw [ra.length, rb.length]; exact hz, fun e => ?_, fun n e => ?_, fun _ _ p np => q.tup (ra.append rb) np⟩
      · subst e
        rw [reps_nil'] at ra
        subst ra
        rw [hK] at qb
        exact q.same (rep_tup.mpr ⟨b, ys, rfl, qb, rb⟩)
      · subst e
        rw [reps_nil'] at rb
        subst rb
        rw [List.append_nil] at q
        rw [hK] at qa
        exact q.same (rep_tup.mpr ⟨a, xs, rfl, qa, ra⟩)
    · cases ev
  · simp only [evalBin] at ev
    split at ev
    · rename_i hz
      cases ev
      obtain ⟨a, xs, ea, qa, ra⟩ := rep_ls.mp hx
      obtain ⟨b, ys, eb, qb, rb⟩ := rep_ls.mp hy
      subst ea eb
      cases rv
      cases rw
      rw [← hK] at qa qb
      exact cat_fz I qa qb (by rw [ra.length, rb.length]; exact hz) fun p np => q.lst (ra.append rb) np
    · cases ev
theorem rb_sub : OpR X (binaryOp .Sub) (rB R .sub) := by
  intro pins s σ H v w u1 u2 Q I rv rw h
  obtain ⟨x, y, sl, hx, hy, ev, q⟩ := h
  cases x <;> cases y <;> try (cases (show (none : Option Slot) = some sl from ev))
  · cases ev
    rw [rep_bl.mp hx] at rv
    rw [rep_int.mp hy] at rw
    cases rv
    obtain ⟨t, rfl⟩ := rw
    exact PySem.IntBool.sub_bool_int ⟨.int _, H, I.tok _, ⟨_, rfl⟩, q.int⟩
  · cases ev
    rw [rep_int.mp hx] at rv
    rw [rep_bl.mp hy] at rw
    cases rw
    obtain ⟨t, rfl⟩ := rv
    exact PySem.IntBool.sub_int_bool ⟨.int _, H, I.tok _, ⟨_, rfl⟩, q.int⟩
  cases ev
  exact op_sub pins s σ H v w u1 u2 Q I rv rw ⟨_, _, rep_int.mp hx, rep_int.mp hy, q.int⟩
theorem rb_mul (hK : X.K = R.K) : OpR X (binaryOp .Mult) (rB R .mul) := by
  intro pins s σ H v w u1 u2 Q I rv rw h
  obtain ⟨x, y, sl, hx, hy, ev, q⟩ := h
  cases x <;> cases y <;> try (cases (show (none : Option Slot) = some sl from ev))
  · simp only [evalBin] at ev
    split at ev
    · rename_i hz
      cases ev
      rcases hz with hz | hz
      · exact op_mul pins s σ H v w u1 u2 Q I rv rw ⟨_, _, rep_int.mp hx, rep_int.mp hy, hz, q.int⟩
      · exact op_mulW pins s σ H v w u1 u2 Q I rv rw ⟨_, _, rep_int.mp hx, rep_int.mp hy, hz, q.int⟩
    · cases ev
  · simp only [evalBin] at ev
    split at ev
    · rename_i ds k hz
      cases ev
      obtain ⟨a, xs, ea, qa, ra⟩ := rep_tup.mp hx
      have ek := rep_int.mp hy
      rw [← hK] at qa
      by_cases hn : xs = []
      · subst hn
        rw [reps_nil'] at ra
        subst ra
        subst ea ek
        cases rv
        obtain ⟨t, rfl⟩ := rw
        refine rep_nil I qa hz.1 hz.2.1 ?_
        have e0 : (List.replicate k.toNat ([] : List D)).flatten = [] := by simp
        rw [e0] at q
        rw [hK] at qa
        exact q.same (rep_tup.mpr ⟨a, [], rfl, qa, by rw [reps_nil]⟩)
      · exact op_repT pins s σ H v w u1 u2 Q I rv rw ⟨a, k, xs, ea, ek, qa, hn, hz.1, hz.2.1, by rw [ra.length]; exact hz.2.2, fun p np => q.tup (ra.repl _) np⟩
    · cases ev
  · simp only [evalBin] at ev
    split at ev
    · rename_i ds k hz
      cases ev
      obtain ⟨a, xs, ea, qa, ra⟩ := rep_ls.mp hx
      have ek := rep_int.mp hy
      subst ea ek
      cases rv
      obtain ⟨t, rfl⟩ := rw
      rw [← hK] at qa
      exact rep_fz I qa hz.1 hz.2.1 (by rw [ra.length]; exact hz.2.2) fun p np => q.lst (ra.repl _) np
    · cases ev
theorem rb_fdiv : OpR X (binaryOp .FloorDiv) (rB R .fdiv) := by
  intro pins s σ H v w u1 u2 Q I rv rw h
  obtain ⟨x, y, sl, hx, hy, ev, q⟩ := h
  cases x <;> cases y <;> try (cases (show (none : Option Slot) = some sl from ev))
  simp only [evalBin] at ev
  split at ev
  · rename_i hz
    cases ev
    exact op_fdivW pins s σ H v w u1 u2 Q I rv rw ⟨_, _, rep_int.mp hx, rep_int.mp hy, hz, q.int⟩
  · split at ev
    · rename_i hz
      cases ev
      exact op_fdivN pins s σ H v w u1 u2 Q I rv rw ⟨_, _, rep_int.mp hx, rep_int.mp hy, hz, q.int⟩
    · cases ev
theorem rb_mod : OpR X (binaryOp .Mod) (rB R .mod) := by
  intro pins s σ H v w u1 u2 Q I rv rw h
  obtain ⟨x, y, sl, hx, hy, ev, q⟩ := h
  cases x <;> cases y <;> try (cases (show (none : Option Slot) = some sl from ev))
  simp only [evalBin] at ev
  split at ev
  · rename_i hz
    cases ev
    exact op_mod pins s σ H v w u1 u2 Q I rv rw ⟨_, _, rep_int.mp hx, rep_int.mp hy, hz, q.int⟩
  · split at ev
    · rename_i hz
      cases ev
      exact op_modN pins s σ H v w u1 u2 Q I rv rw ⟨_, _, rep_int.mp hx, rep_int.mp hy, hz, q.int⟩
    · cases ev
theorem rb_pow : OpR X (binaryOp .Pow) (rB R .pow) := by
  intro pins s σ H v w u1 u2 Q I rv rw h
  obtain ⟨x, y, sl, hx, hy, ev, q⟩ := h
  cases x <;> cases y <;> try (cases (show (none : Option Slot) = some sl from ev))
  simp only [evalBin] at ev
  split at ev
  · rename_i hz
    cases ev
    exact op_pow pins s σ H v w u1 u2 Q I rv rw ⟨_, _, rep_int.mp hx, rep_int.mp hy, hz, q.int⟩
  · cases ev

theorem shp_lay {d : D} (h : d.shp = true) : d.toPy.canLay0 = true := SeqAt.canLay_of_shaped h
theorem str_beq (x y : Str) : (x.cps.toList == y.cps.toList) = (x == y) := by
  by_cases h : x = y
  · subst h; simp
  · have h1 : (x == y) = false := by simpa using h
    have h2 : (x.cps.toList == y.cps.toList) = false := by
      simp only [beq_eq_false_iff_ne, ne_eq]
      intro e
      apply h
      cases x; cases y
      congr
      exact Array.ext' e
    rw [h1, h2]
theorem eqC_inv {x y : D} {b : Bool} (h : eqC x y = some b) : (∃ s t, x = .str s ∧ y = .str t ∧ b = (s == t)) ∨ (x.shp = true ∧ y.shp = true ∧ b = D.eqv x y) := by
  unfold eqC at h
  split at h
  · cases h; exact .inl ⟨_, _, rfl, rfl, rfl⟩
  · split at h
    · rename_i hz
      cases h
      exact .inr ⟨hz.1, hz.2, rfl⟩
    · cases h
theorem rc_eq (hK : X.K = R.K) (hu : X.A.units + 64 < cLine) : OpR X (compareOp .Eq) (rC R .eq) := by
  intro pins s σ H v w u1 u2 Q I rv rw h
  obtain ⟨x, y, b, hx, hy, ev, q⟩ := h
  simp only [evalCmp] at ev
  rcases eqC_inv ev with ⟨s1, t1, rfl, rfl, rfl⟩ | ⟨z1, z2, rfl⟩
  · rw [rep_str.mp hx] at rv
    rw [rep_str.mp hy] at rw
    obtain ⟨t', rfl⟩ := rv
    obtain ⟨t'', rfl⟩ := rw
    exact PySem.P.eq_str ⟨.bl _, H, I, rfl, by rw [str_beq]; exact q⟩
  · have hz := And.intro z1 z2
    refine op_eqD hu pins s σ H v w u1 u2 Q I rv rw ⟨x.toPy, y.toPy, ?_, ?_, hz.1, hz.2, ?_⟩
    · rw [hK]; exact hx.dp _ _ (shp_lay hz.1)
    · rw [hK]; exact hy.dp _ _ (shp_lay hz.2)
    · rw [← eqv_py _ _ (shp_lay hz.1) (shp_lay hz.2)]
      exact q
theorem rc_ne (hK : X.K = R.K) (hu : X.A.units + 64 < cLine) : OpR X (compareOp .NotEq) (rC R .ne) := by
  intro pins s σ H v w u1 u2 Q I rv rw h
  obtain ⟨x, y, b, hx, hy, ev, q⟩ := h
  simp only [evalCmp] at ev
  obtain ⟨b', ev2, rfl⟩ := map_some' ev
  clear ev
  rcases eqC_inv ev2 with ⟨s1, t1, rfl, rfl, rfl⟩ | ⟨z1, z2, rfl⟩
  · rw [rep_str.mp hx] at rv
    rw [rep_str.mp hy] at rw
    obtain ⟨t', rfl⟩ := rv
    obtain ⟨t'', rfl⟩ := rw
    exact PySem.P.ne_str ⟨.bl _, H, I, rfl, by rw [show (s1.cps.toList != t1.cps.toList) = !(s1 == t1) from congrArg _ (str_beq s1 t1)]; exact q⟩
  · have hz := And.intro z1 z2
    refine op_neD hu pins s σ H v w u1 u2 Q I rv rw ⟨x.toPy, y.toPy, ?_, ?_, hz.1, hz.2, ?_⟩
    · rw [hK]; exact hx.dp _ _ (shp_lay hz.1)
    · rw [hK]; exact hy.dp _ _ (shp_lay hz.2)
    · rw [← eqv_py _ _ (shp_lay hz.1) (shp_lay hz.2)]
      exact q
theorem rc_lt (hK : X.K = R.K) (hu : X.A.units < cLine) : OpR X (compareOp .Lt) (rC R .lt) := by
  intro pins s σ H v w u1 u2 Q I rv rw h
  obtain ⟨x, y, b, hx, hy, ev, q⟩ := h
  cases x <;> cases y <;> try (cases (show (none : Option Bool) = some b from ev))
  · cases ev
    exact op_lt pins s σ H v w u1 u2 Q I rv rw ⟨_, _, rep_int.mp hx, rep_int.mp hy, q⟩
  · simp only [evalCmp] at ev
    split at ev
    · rename_i ns ms e1 e2
      cases ev
      obtain ⟨a, xs, ea, qa, ra⟩ := rep_tup.mp hx
      obtain ⟨c, ys, eb, qb, rb⟩ := rep_tup.mp hy
      rw [← hK] at qa qb
      have f1 := allInt_of e1 ra
      have f2 := allInt_of e2 rb
      subst f1 f2
      exact op_ltT hu pins s σ H v w u1 u2 Q I rv rw ⟨a, c, _, _, ea, eb, qa, qb, q⟩
    · cases ev
theorem rc_le : OpR X (compareOp .LtE) (rC R .le) := by
  intro pins s σ H v w u1 u2 Q I rv rw h
  obtain ⟨x, y, b, hx, hy, ev, q⟩ := h
  cases x <;> cases y <;> try (cases (show (none : Option Bool) = some b from ev))
  cases ev
  exact op_le pins s σ H v w u1 u2 Q I rv rw ⟨_, _, rep_int.mp hx, rep_int.mp hy, q⟩
theorem rc_gt : OpR X (compareOp .Gt) (rC R .gt) := by
  intro pins s σ H v w u1 u2 Q I rv rw h
  obtain ⟨x, y, b, hx, hy, ev, q⟩ := h
  cases x <;> cases y <;> try (cases (show (none : Option Bool) = some b from ev))
  cases ev
  exact op_gt pins s σ H v w u1 u2 Q I rv rw ⟨_, _, rep_int.mp hx, rep_int.mp hy, q⟩
theorem rc_ge : OpR X (compareOp .GtE) (rC R .ge) := by
  intro pins s σ H v w u1 u2 Q I rv rw h
  obtain ⟨x, y, b, hx, hy, ev, q⟩ := h
  cases x <;> cases y <;> try (cases (show (none : Option Bool) = some b from ev))
  cases ev
  exact op_ge pins s σ H v w u1 u2 Q I rv rw ⟨_, _, rep_int.mp hx, rep_int.mp hy, q⟩
theorem rep_flat {H : Hp} {v : V} {d : D} (r : Rep R H v d) (f : d.flat = true) : flatV v = true := by
  cases d <;> try cases f
  · rw [rep_non.mp r]; rfl
  · rw [rep_bl.mp r]; rfl
  · rw [rep_int.mp r]; rfl
  · rw [rep_str.mp r]; rfl
theorem reps_flat {H : Hp} : ∀ {ds : List D} {vs : List V}, Reps R H vs ds → ds.all D.flat = true → vs.all flatV = true
  | [], vs, r, _ => by rw [reps_nil] at r; subst r; rfl
  | d :: ds, vs, r, f => by
    rw [reps_cons] at r
    obtain ⟨v, t, rfl, r1, r2⟩ := r
    rw [List.all_cons, Bool.and_eq_true] at f ⊢
    exact ⟨rep_flat r1 f.1, reps_flat r2 f.2⟩
theorem eqv_flat {H : Hp} {v w : V} {d e : D} (r : Rep R H v d) (r' : Rep R H w e) (f : d.flat = true) (f' : e.flat = true) : eqV v w = D.eqv d e := by
  cases d <;> try cases f
  all_goals (cases e <;> try cases f')
  all_goals (simp only [rep_non, rep_bl, rep_int, rep_str] at r r'; subst r r'; simp [eqV, D.eqv, b2i])
theorem isIn_flat {H : Hp} {v : V} {d : D} (r : Rep R H v d) (f : d.flat = true) : ∀ {ds : List D} {vs : List V}, Reps R H vs ds → ds.all D.flat = true → inV v vs = D.isIn d ds
  | [], vs, r, _ => by rw [reps_nil] at r; subst r; rfl
  | e :: ds, vs, rr, ff => by
    rw [reps_cons] at rr
    obtain ⟨w, t, rfl, r1, r2⟩ := rr
    rw [List.all_cons, Bool.and_eq_true] at ff
    have ih := isIn_flat r f r2 ff.2
    unfold inV D.isIn at *
    rw [List.any_cons, List.any_cons, eqv_flat r1 r ff.1 f, ih]
theorem rep_items (hK : X.K = R.K) {H : Hp} {v : V} {d : D} {ds : List D} (r : Rep R H v d) (e : d.items = some ds) : ∃ a xs, v = .ref a ∧ (SqL X.K H a xs ∨ SqT X.K H a xs) ∧ Reps R H xs ds := by
  cases d <;> try cases e
  · obtain ⟨a, xs, e, q, rr⟩ := rep_tup.mp r
    rw [← hK] at q
    exact ⟨a, xs, e, .inr q, rr⟩
  · obtain ⟨a, xs, e, q, rr⟩ := rep_ls.mp r
    rw [← hK] at q
    exact ⟨a, xs, e, .inl q.seq, rr⟩
theorem rc_in (hK : X.K = R.K) : OpR X (compareOp .In) (rC R .inn) := by
  intro pins s σ H v w u1 u2 Q I rv rw h
  obtain ⟨x, y, b, hx, hy, ev, q⟩ := h
  simp only [evalCmp] at ev
  split at ev
  · rename_i ds e
    split at ev
    · rename_i hz
      cases ev
      obtain ⟨a, xs, ea, qa, ra⟩ := rep_items hK hy e
      refine op_in_seq pins s σ H v w u1 u2 Q I rv rw ⟨a, xs, ea, qa, rep_flat hx hz.1, reps_flat ra hz.2, ?_⟩
      rw [isIn_flat hx hz.1 ra hz.2]
      exact q
    · cases ev
  · cases ev
theorem rc_nin (hK : X.K = R.K) : OpR X (compareOp .NotIn) (rC R .nin) := by
  intro pins s σ H v w u1 u2 Q I rv rw h
  obtain ⟨x, y, b, hx, hy, ev, q⟩ := h
  simp only [evalCmp] at ev
  split at ev
  · rename_i ds e
    split at ev
    · rename_i hz
      cases ev
      obtain ⟨a, xs, ea, qa, ra⟩ := rep_items hK hy e
      refine op_notIn_seq pins s σ H v w u1 u2 Q I rv rw ⟨a, xs, ea, qa, rep_flat hx hz.1, reps_flat ra hz.2, ?_⟩
      rw [isIn_flat hx hz.1 ra hz.2]
      exact q
    · cases ev
  · cases ev
theorem rep_tru (hK : X.K = R.K) {H : Hp} {v : V} {d : D} {b : Bool} (r : Rep R H v d) (e : d.truth = some b) : TruV X.K v H b := by
  cases d
  · cases e; rw [rep_non.mp r]; rfl
  · cases e; rw [rep_bl.mp r]; rfl
  · cases e; rw [rep_int.mp r]; rfl
  · simp only [D.truth] at e
    split at e
    · rename_i hz
      cases e
      rw [rep_str.mp r]
      refine ⟨hz, ?_⟩
      rename_i x
      cases h : x.length with
      | zero => rfl
      | succ n =>
        simp [bne]
        omega
    · cases e
  · cases e
    obtain ⟨a, xs, e, q, rr⟩ := rep_tup.mp r
    subst e
    rw [← hK] at q
    refine .inr (.inl ⟨xs, q, ?_⟩)
    rename_i ds
    have := rr.length
    cases ds <;> cases xs <;> simp_all
  · cases e
    obtain ⟨a, xs, e, q, rr⟩ := rep_ls.mp r
    subst e
    rw [← hK] at q
    refine .inl ⟨xs, q.seq, ?_⟩
    rename_i ds
    have := rr.length
    cases ds <;> cases xs <;> simp_all
  · cases e
end
end Pi

-- PiCalls
set_option maxHeartbeats 1000000
namespace Pi
open PySem PySem.Spec PyProof.Rows L2
def rBI (R : Rc) (b : BI) : List V → Hp → VK → Prop := fun vs H Q => ∃ ds s, Reps R H vs ds ∧ evalBI b ds = some s ∧ Res R H s Q
section
variable {X : Cx} {R : Rc}
theorem reps1 {H : Hp} {vs : List V} {d : D} (h : Reps R H vs [d]) : ∃ v, vs = [v] ∧ Rep R H v d := by
  rw [reps_cons] at h
  obtain ⟨v, r, rfl, h1, h2⟩ := h
  rw [reps_nil] at h2
  subst h2
  exact ⟨v, rfl, h1⟩
theorem reps2 {H : Hp} {vs : List V} {d e : D} (h : Reps R H vs [d, e]) : ∃ v w, vs = [v, w] ∧ Rep R H v d ∧ Rep R H w e := by
  rw [reps_cons] at h
  obtain ⟨v, r, rfl, h1, h2⟩ := h
  obtain ⟨w, rfl, h3⟩ := reps1 h2
  exact ⟨v, w, rfl, h1, h3⟩
theorem bi_len (hK : X.K = R.K) : CallR X (.builtin "len") (rBI R .len) := by
  intro pins s σ H xs us Q I rv h
  obtain ⟨ds, sl, r, ev, q⟩ := h
  replace ev : biLen ds = some sl := ev
  unfold biLen at ev
  split at ev <;> try cases ev
  · obtain ⟨v, rfl, r1⟩ := reps1 r
    obtain ⟨a, ys, e, hq, rr⟩ := rep_tup.mp r1
    rw [← hK] at hq
    refine call_len_seq pins s σ H _ us Q I rv ⟨a, ys, by rw [e], .inr hq, ?_⟩
    rw [rr.length]
    exact q.int
  · obtain ⟨v, rfl, r1⟩ := reps1 r
    obtain ⟨a, ys, e, hq, rr⟩ := rep_ls.mp r1
    refine call_len_seq pins s σ H _ us Q I rv ⟨a, ys, by rw [e], .inl (hq.seqX hK), ?_⟩
    rw [rr.length]
    exact q.int
  · rename_i x
    split at ev <;> cases ev
    obtain ⟨v, rfl, r1⟩ := reps1 r
    refine call_len_str pins s σ H _ us Q I rv ⟨x, by rw [rep_str.mp r1], by assumption, q.int⟩
theorem bi_abs : CallR X (.builtin "abs") (rBI R .abs) := by
  intro pins s σ H xs us Q I rv h
  obtain ⟨ds, sl, r, ev, q⟩ := h
  replace ev : biAbs ds = some sl := ev
  unfold biAbs at ev
  split at ev <;> try cases ev
  obtain ⟨v, rfl, r1⟩ := reps1 r
  exact call_abs pins s σ H _ us Q I rv ⟨_, by rw [rep_int.mp r1], q.int⟩
theorem foldMax_ge : ∀ (xs : List Int) (x : Int), x ≤ xs.foldl (fun m y => if m < y then y else m) x ∧ (∀ y ∈ xs, y ≤ xs.foldl (fun m y => if m < y then y else m) x) ∧ (xs.foldl (fun m y => if m < y then y else m) x = x ∨ xs.foldl (fun m y => if m < y then y else m) x ∈ xs)
  | [], x => ⟨Int.le_refl _, by simp, .inl rfl⟩
  | y :: ys, x => by
    rw [List.foldl_cons]
    obtain ⟨h1, h2, h3⟩ := foldMax_ge ys (if x < y then y else x)
    have h4 : x ≤ (if x < y then y else x) ∧ y ≤ (if x < y then y else x) := by split <;> omega
    refine ⟨Int.le_trans h4.1 h1, fun z hz => ?_, ?_⟩
    · rcases List.mem_cons.mp hz with rfl | hz
      · exact Int.le_trans h4.2 h1
      · exact h2 z hz
    · rcases h3 with h3 | h3
      · rw [h3]
        split
        · exact .inr List.mem_cons_self
        · exact .inl rfl
      · exact .inr (List.mem_cons_of_mem _ h3)
theorem foldMin_le : ∀ (xs : List Int) (x : Int), xs.foldl (fun m y => if y < m then y else m) x ≤ x ∧ (∀ y ∈ xs, xs.foldl (fun m y => if y < m then y else m) x ≤ y) ∧ (xs.foldl (fun m y => if y < m then y else m) x = x ∨ xs.foldl (fun m y => if y < m then y else m) x ∈ xs)
  | [], x => ⟨Int.le_refl _, by simp, .inl rfl⟩
  | y :: ys, x => by
    rw [List.foldl_cons]
    obtain ⟨h1, h2, h3⟩ := foldMin_le ys (if y < x then y else x)
    have h4 : (if y < x then y else x) ≤ x ∧ (if y < x then y else x) ≤ y := by split <;> omega
    refine ⟨Int.le_trans h1 h4.1, fun z hz => ?_, ?_⟩
    · rcases List.mem_cons.mp hz with rfl | hz
      · exact Int.le_trans h1 h4.2
      · exact h2 z hz
    · rcases h3 with h3 | h3
      · rw [h3]
        split
        · exact .inr List.mem_cons_self
        · exact .inl rfl
      · exact .inr (List.mem_cons_of_mem _ h3)
theorem maxOf_is {ns : List Int} {m k : Int} (h : maxOf ns = some m) (hk : k ∈ ns) (ge : ∀ y ∈ ns, y ≤ k) : k = m := by
  cases ns with
  | nil => cases h
  | cons x xs =>
    cases h
    obtain ⟨h1, h2, h3⟩ := foldMax_ge xs x
    have a : (xs.foldl (fun m y => if m < y then y else m) x) ≤ k := by
      rcases h3 with e | e
      · rw [e]; exact ge x List.mem_cons_self
      · exact ge _ (List.mem_cons_of_mem _ e)
    have b : k ≤ (xs.foldl (fun m y => if m < y then y else m) x) := by
      rcases List.mem_cons.mp hk with e | e
      · rw [e]; exact h1
      · exact h2 k e
    omega
theorem minOf_is {ns : List Int} {m k : Int} (h : minOf ns = some m) (hk : k ∈ ns) (ge : ∀ y ∈ ns, k ≤ y) : k = m := by
  cases ns with
  | nil => cases h
  | cons x xs =>
    cases h
    obtain ⟨h1, h2, h3⟩ := foldMin_le xs x
    have a : k ≤ (xs.foldl (fun m y => if y < m then y else m) x) := by
      rcases h3 with e | e
      · rw [e]; exact ge x List.mem_cons_self
      · exact ge _ (List.mem_cons_of_mem _ e)
    have b : (xs.foldl (fun m y => if y < m then y else m) x) ≤ k := by
      rcases List.mem_cons.mp hk with e | e
      · rw [e]; exact h1
      · exact h2 k e
    omega
theorem bi_min (hK : X.K = R.K) (hc : X.calm = true) : CallR X (.builtin "min") (rBI R .min) := by
  intro pins s σ H xs us Q I rv h
  obtain ⟨ds, sl, r, ev, q⟩ := h
  replace ev : biMin ds = some sl := ev
  unfold biMin at ev
  split at ev <;> try cases ev
  · obtain ⟨v, w, rfl, r1, r2⟩ := reps2 r
    exact call_min2 hc pins s σ H _ us Q I rv ⟨_, _, by rw [rep_int.mp r1, rep_int.mp r2], q.int⟩
  · obtain ⟨v, rfl, r1⟩ := reps1 r
    obtain ⟨a, ys, e, hq, rr⟩ := rep_ls.mp r1
    split at ev <;> try cases ev
    rename_i ns hn
    obtain ⟨m, hm, e2⟩ := map_some' ev
    cases e2
    have f := allInt_of hn rr
    subst f
    refine cr_min hc pins s σ H _ us Q I rv ⟨a, ns, by rw [e], (hq.seqX hK), ?_, fun k hk ge => ?_⟩
    · cases ns with
      | nil => cases hm
      | cons _ _ => simp
    · rw [minOf_is hm hk ge]
      exact q.int
theorem bi_max (hK : X.K = R.K) (hc : X.calm = true) : CallR X (.builtin "max") (rBI R .max) := by
  intro pins s σ H xs us Q I rv h
  obtain ⟨ds, sl, r, ev, q⟩ := h
  replace ev : biMax ds = some sl := ev
  unfold biMax at ev
  split at ev <;> try cases ev
  · obtain ⟨v, w, rfl, r1, r2⟩ := reps2 r
    exact call_max2 hc pins s σ H _ us Q I rv ⟨_, _, by rw [rep_int.mp r1, rep_int.mp r2], q.int⟩
  · obtain ⟨v, rfl, r1⟩ := reps1 r
    obtain ⟨a, ys, e, hq, rr⟩ := rep_ls.mp r1
    split at ev <;> try cases ev
    rename_i ns hn
    obtain ⟨m, hm, e2⟩ := map_some' ev
    cases e2
    have f := allInt_of hn rr
    subst f
    refine cr_max hc pins s σ H _ us Q I rv ⟨a, ns, by rw [e], (hq.seqX hK), ?_, fun k hk ge => ?_⟩
    · cases ns with
      | nil => cases hm
      | cons _ _ => simp
    · rw [maxOf_is hm hk ge]
      exact q.int
theorem bi_int : CallR X (.type "int") (rBI R .int) := by
  intro pins s σ H xs us Q I rv h
  obtain ⟨ds, sl, r, ev, q⟩ := h
  replace ev : biInt ds = some sl := ev
  unfold biInt at ev
  split at ev <;> try cases ev
  · obtain ⟨v, rfl, r1⟩ := reps1 r
    exact call_int1 pins s σ H _ us Q I rv (.inl ⟨_, by rw [rep_int.mp r1], q.int⟩)
  · obtain ⟨v, rfl, r1⟩ := reps1 r
    exact call_int1 pins s σ H _ us Q I rv (.inr ⟨_, by rw [rep_bl.mp r1], q.int⟩)
theorem bi_sum (hK : X.K = R.K) (hc : X.calm = true) : CallR X (.builtin "sum") (rBI R .sum) := by
  intro pins s σ H xs us Q I rv h
  obtain ⟨ds, sl, r, ev, q⟩ := h
  replace ev : biSum ds = some sl := ev
  unfold biSum at ev
  split at ev <;> try cases ev
  obtain ⟨v, rfl, r1⟩ := reps1 r
  obtain ⟨a, ys, e, hq, rr⟩ := rep_ls.mp r1
  obtain ⟨ns, hn, e2⟩ := map_some' ev
  cases e2
  have f := allInt_of hn rr
  subst f
  exact cr_sum hc pins s σ H _ us Q I rv ⟨a, ns, by rw [e], (hq.seqX hK), q.int⟩
theorem bi_all (hK : X.K = R.K) (hc : X.calm = true) : CallR X (.builtin "all") (rBI R .all) := by
  intro pins s σ H xs us Q I rv h
  obtain ⟨ds, sl, r, ev, q⟩ := h
  replace ev : biAll ds = some sl := ev
  unfold biAll at ev
  split at ev <;> try cases ev
  obtain ⟨v, rfl, r1⟩ := reps1 r
  obtain ⟨a, ys, e, hq, rr⟩ := rep_ls.mp r1
  obtain ⟨ns, hn, e2⟩ := map_some' ev
  cases e2
  have f := allBl_of hn rr
  subst f
  exact cr_all hc pins s σ H _ us Q I rv ⟨a, ns, by rw [e], (hq.seqX hK), q.bl⟩
theorem bi_any (hK : X.K = R.K) (hc : X.calm = true) : CallR X (.builtin "any") (rBI R .any) := by
  intro pins s σ H xs us Q I rv h
  obtain ⟨ds, sl, r, ev, q⟩ := h
  replace ev : biAny ds = some sl := ev
  unfold biAny at ev
  split at ev <;> try cases ev
  obtain ⟨v, rfl, r1⟩ := reps1 r
  obtain ⟨a, ys, e, hq, rr⟩ := rep_ls.mp r1
  obtain ⟨ns, hn, e2⟩ := map_some' ev
  cases e2
  have f := allBl_of hn rr
  subst f
  exact cr_any hc pins s σ H _ us Q I rv ⟨a, ns, by rw [e], (hq.seqX hK), q.bl⟩
theorem bi_tuple (hK : X.K = R.K) : CallR X (.type "tuple") (rBI R .tuple) := by
  intro pins s σ H xs us Q I rv h
  obtain ⟨ds, sl, r, ev, q⟩ := h
  replace ev : biTuple ds = some sl := ev
  unfold biTuple at ev
  split at ev <;> try cases ev
  · obtain ⟨v, rfl, r1⟩ := reps1 r
    obtain ⟨a, ys, e, hq, rr⟩ := rep_tup.mp r1
    rw [← hK] at hq
    subst e
    exact call_tuple_of pins s σ H _ us Q I rv ⟨a, ys, rfl, .inr ⟨hq, q.same r1⟩⟩
  · obtain ⟨v, rfl, r1⟩ := reps1 r
    obtain ⟨a, ys, e, hq, rr⟩ := rep_ls.mp r1
    subst e
    exact call_tuple_of pins s σ H _ us Q I rv ⟨a, ys, rfl, .inl ⟨(hq.seqX hK), fun l hl => q.tup rr hl⟩⟩
theorem bi_list (hK : X.K = R.K) : CallR X (.type "list") (rBI R .list) := by
  intro pins s σ H xs us Q I rv h
  obtain ⟨ds, sl, r, ev, q⟩ := h
  replace ev : biList ds = some sl := ev
  unfold biList at ev
  split at ev <;> try cases ev
  · obtain ⟨v, rfl, r1⟩ := reps1 r
    obtain ⟨a, ys, e, hq, rr⟩ := rep_tup.mp r1
    rw [← hK] at hq
    subst e
    exact call_list_of pins s σ H _ us Q I rv ⟨a, ys, rfl, .inr hq, fun l hl => q.lst rr hl⟩
  · obtain ⟨v, rfl, r1⟩ := reps1 r
    obtain ⟨a, ys, e, hq, rr⟩ := rep_ls.mp r1
    subst e
    exact call_list_of pins s σ H _ us Q I rv ⟨a, ys, rfl, .inl (hq.seqX hK), fun l hl => q.lst rr hl⟩
theorem bi_repr (hK : X.K = R.K) (hgd : X.A.guards = some []) (hu : X.A.units + 64 < cLine) : CallR X (.builtin "repr") (rBI R .repr) := by
  intro pins s σ H xs us Q I rv h
  obtain ⟨ds, sl, r, ev, q⟩ := h
  replace ev : biRepr ds = some sl := ev
  unfold biRepr at ev
  split at ev <;> try cases ev
  · obtain ⟨v, rfl, r1⟩ := reps1 r
    rw [rep_bl.mp r1] at rv
    obtain ⟨u, rfl, ru⟩ := vals1 rv
    cases ru
    exact PySem.P.repr_of_bool ⟨.str _, H, I.tok _, ⟨_, rfl⟩, q.str⟩
  · obtain ⟨v, rfl, r1⟩ := reps1 r
    rw [rep_non.mp r1] at rv
    obtain ⟨u, rfl, ru⟩ := vals1 rv
    cases ru
    exact PySem.P.repr_of_none ⟨.str _, H, I.tok _, ⟨_, rfl⟩, q.str⟩
  · obtain ⟨v, rfl, r1⟩ := reps1 r
    split at ev <;> cases ev
    rw [rep_int.mp r1] at rv
    obtain ⟨u, rfl, ru⟩ := vals1 rv
    obtain ⟨t, rfl⟩ := ru
    exact PySem.P.repr_of_int (by assumption) ⟨.str _, H, I.tok _, ⟨_, rfl⟩, q.str⟩
  · rename_i ts
    obtain ⟨v, rfl, r1⟩ := reps1 r
    split at ev <;> cases ev
    rename_i hok
    unfold D.repOk at hok
    simp only [Bool.and_eq_true, decide_eq_true_eq] at hok
    obtain ⟨⟨⟨c1, c2⟩, c3⟩, c4⟩ := hok
    obtain ⟨u, rfl, ru⟩ := vals1 rv
    have dp : Dp X.K H v (D.tup ts).toPy := by rw [hK]; exact Rep.dp _ _ r1 c1
    obtain ⟨as, rd⟩ := Dp.reads I _ v u dp ru
    obtain ⟨a, ys, e, _, _⟩ := rep_tup.mp r1
    subst e
    obtain rfl : u = Value.ref a := ru
    exact repr_of_reads' rd c2 (PyData.noDict_hsm (PyData.hasDict_of_canLay _ c1)) hgd (by omega) (fun _ _ e => e) (fun h' u' tk hk => ⟨.str _, H, I.kept (t' := tk) hk, ⟨_, rfl⟩, q.str⟩) c4
  · obtain ⟨v, rfl, r1⟩ := reps1 r
    split at ev <;> cases ev
    rename_i hok
    unfold D.repOk at hok
    simp only [Bool.and_eq_true, decide_eq_true_eq] at hok
    rw [rep_str.mp r1] at rv
    obtain ⟨u, rfl, ru⟩ := vals1 rv
    obtain ⟨t, rfl⟩ := ru
    have c4 := hok.2
    rw [D.toPy, PyData.shown] at *
    exact PySem.P.repr_of_str ⟨.str _, H, I.tok _, ⟨_, rfl⟩, q.str⟩ c4

def tyName : Ty → String
  | .int => "int" | .bool => "bool" | .str => "str" | .tuple => "tuple" | .list => "list"
theorem kits : kitB "int" "int" = some true ∧ kitB "bool" "int" = some true ∧ kitB "str" "int" = some false ∧ kitB "NoneType" "int" = some false ∧ kitB "tuple" "int" = some false ∧ kitB "list" "int" = some false ∧
    kitB "int" "bool" = some false ∧ kitB "bool" "bool" = some true ∧ kitB "str" "bool" = some false ∧ kitB "NoneType" "bool" = some false ∧ kitB "tuple" "bool" = some false ∧ kitB "list" "bool" = some false ∧
    kitB "int" "str" = some false ∧ kitB "bool" "str" = some false ∧ kitB "str" "str" = some true ∧ kitB "NoneType" "str" = some false ∧ kitB "tuple" "str" = some false ∧ kitB "list" "str" = some false ∧
    kitB "int" "tuple" = some false ∧ kitB "bool" "tuple" = some false ∧ kitB "str" "tuple" = some false ∧ kitB "NoneType" "tuple" = some false ∧ kitB "tuple" "tuple" = some true ∧ kitB "list" "tuple" = some false ∧
    kitB "int" "list" = some false ∧ kitB "bool" "list" = some false ∧ kitB "str" "list" = some false ∧ kitB "NoneType" "list" = some false ∧ kitB "tuple" "list" = some false ∧ kitB "list" "list" = some true := by decide +kernel
def tyD : D → String
  | .non => "NoneType" | .bl _ => "bool" | .int _ => "int" | .str _ => "str" | .tup _ => "tuple" | .ls _ => "list" | .fn _ => "function"
theorem rep_ty (hK : X.K = R.K) {H : Hp} {v : V} {d : D} (r : Rep R H v d) (n : ∀ j, d ≠ .fn j) : TyX X.K H v (.type (tyD d)) := by
  cases d with
  | non => rw [rep_non.mp r]; exact .base .non
  | bl b => rw [rep_bl.mp r]; exact .base (.bl _)
  | int i => rw [rep_int.mp r]; exact .base (.int _)
  | str x => rw [rep_str.mp r]; exact .base (.str _)
  | tup ds =>
    obtain ⟨a, xs, rfl, q, _⟩ := rep_tup.mp r
    rcases q with (q | ⟨o, q⟩) | ⟨o, its, n, q, hc, _⟩
    · exact .base (.tup q)
    · exact .fTuple q
    · rw [← hK] at q
      exact .kTuple q hc
  | ls ds =>
    obtain ⟨a, xs, rfl, ⟨o, q⟩ | ⟨o, its, n, q, hc, _⟩, _⟩ := rep_ls.mp r
    · exact .base (.frz q)
    · rw [← hK] at q
      exact .kList q hc
  | fn j => exact absurd rfl (n j)
theorem isTy_kit {t : Ty} {d : D} {b : Bool} (h : isTy t d = some b) : kitB (tyD d) (tyName t) = some b := by
  obtain ⟨a1, a2, a3, a4, a5, a6, b1, b2, b3, b4, b5, b6, c1, c2, c3, c4, c5, c6, d1, d2, d3, d4, d5, d6, e1, e2, e3, e4, e5, e6⟩ := kits
  cases t <;> cases d <;> cases h <;> assumption
theorem bi_isi (hK : X.K = R.K) {v : V} {d : D} {t : Ty} {b : Bool} {u : Value} {pins : List (Addr × Obj)} {s : Shared} {σ : Sg} {H : Hp} {Q : VK} (I : Inv X pins σ H s) (rv : RelV v u) (r : Rep R H v d) (h : isTy t d = some b) (q : Q (.bl b) H) :
    wpAny (model X.prog X.w) X.A (PySem.call (.builtin "isinstance") [u, .type (tyName t)]) (EP X pins σ Q) X.xe s := by
  refine call_isi pins s σ H [v, .ty (tyName t)] [u, .type (tyName t)] Q I (.cons rv (.cons rfl .nil)) ⟨v, .ty (tyName t), .type (tyD d), .type (tyName t), b, rfl, .ty _, rep_ty hK r (fun j e => ?_), kit_ty (isTy_kit h), q⟩
  subst e
  cases t <;> cases h
end
end Pi

-- PiExpr2
set_option maxHeartbeats 1000000
namespace Pi
open PySem PySem.Spec PyProof.Rows L2

def isStar : Expr → Bool
  | .Starred .. => true
  | _ => false
theorem star_one {e : Expr} {es : List Expr} {env : PySem.Env} (h : isStar e = false) : starEach (e :: es) env = (false, eval e env) :: starEach es env := by
  cases e <;> first | rfl | cases h
theorem star_any {pos : Pos} {env : PySem.Env} : ∀ {es : List Expr}, es.all (fun e => !isStar e) = true → (backTo pos (starEach es env)).any (·.1) = false
  | [], _ => rfl
  | e :: es, h => by
    rw [List.all_cons, Bool.and_eq_true] at h
    have h1 : isStar e = false := by simpa using h.1
    rw [star_one h1]
    have ih := star_any (pos := pos) (env := env) h.2
    show (backTo pos ((false, eval e env) :: starEach es env)).any (·.1) = false
    simpa [backTo] using ih

section
variable {X : Cx} {G : Gh} {cl : Oracle}
def tDs (G : Gh) (cl : Oracle) (c : CEs) : TA := fun σ H Q => ∃ env ds env', EnvOk G env σ H ∧ evalEs cl c env = some (ds, env') ∧ ∀ vs H', Post G env σ H env' H' → Reps G.toRc H' vs ds → Q vs H'
theorem c_nil : PA X [] (tDs G cl .nil) := pa_imp pa_nil fun σ H Q ⟨env, ds, env', E, ev, q⟩ => by
  rw [evalEs] at ev
  cases ev
  exact q [] H (Post.refl E) (by rw [reps_nil])
theorem c_cons {e : Expr} {es : List Expr} {c : CE} {cs : CEs} (hs : isStar e = false) (he : PE X e (tE G cl c)) (hr : PA X es (tDs G cl cs)) : PA X (e :: es) (tDs G cl (.cons c cs)) :=
  pa_imp (pa_cons (pe_val he) hr (star_one hs)) fun σ H Q ⟨env, ds, env', E, ev, q⟩ => by
    rw [evalEs] at ev
    obtain ⟨s1, x, e1, ev1, d1, ev⟩ := bindV_some ev
    obtain ⟨xs, e2, ev2, ev⟩ := bindDs_some' ev
    cases ev
    refine ⟨env, s1, e1, x, E, ev1, d1, fun v H1 p1 r1 => ?_⟩
    refine ⟨e1, xs, _, p1.ok, ev2, fun vs H2 p2 r2 => ?_⟩
    exact q _ H2 (p1.trans p2) (reps_cons.mpr ⟨v, vs, rfl, r1.keep (p2.fr.kp p1.ok), r2⟩)
theorem res_of {env env' : En} {σ : Sg} {H H1 : Hp} {s : Slot} {Q : VK} (E : EnvOk G env σ H) (p : Post G env σ H env' H1) (q : ∀ v H', Post G env σ H env' H' → SlotRep G H H' s v → Q v H') : Res G.toRc H1 s Q := Res.of E p q
theorem c_tup {es : List Expr} {cs : CEs} {k : Nat} {pos : Pos} (h : PA X es (tDs G cl cs)) : PE X (.Tuple es k pos) (tE G cl (.tup cs)) :=
  pe_imp (pe_tup h) fun σ H Q ⟨env, sl, env', E, ev, q⟩ => by
    rw [evalE] at ev
    obtain ⟨ds, e1, ev1, ev⟩ := bindDs_some' ev
    split at ev <;> cases ev
    rename_i hz
    refine ⟨env, ds, _, E, ev1, fun vs H1 p1 r1 => ⟨by rw [r1.length]; exact hz, fun p np => (Res.of E p1 q).tup r1 np⟩⟩
theorem c_lst {es : List Expr} {cs : CEs} {pos : Pos} (h : PA X es (tDs G cl cs)) : PE X (.List es pos) (tE G cl (.lst cs)) :=
  pe_imp (pe_lst h) fun σ H Q ⟨env, sl, env', E, ev, q⟩ => by
    rw [evalE] at ev
    obtain ⟨ds, e1, ev1, ev⟩ := bindDs_some' ev
    split at ev <;> cases ev
    rename_i hz
    refine ⟨env, ds, _, E, ev1, fun vs H1 p1 r1 => ⟨by rw [r1.length]; exact hz, fun p np => (Res.of E p1 q).lst r1 np⟩⟩
theorem c_bi {x : Str} {p pos : Pos} {e : Expr} {es : List Expr} {cs : CEs} {b : BI} (h : ∀ {t : TA}, PA X (e :: es) t → PE X (.Call (.Name x p) (e :: es) [] pos) (tCB (rBI G.toRc b) t)) (ha : PA X (e :: es) (tDs G cl cs)) :
    PE X (.Call (.Name x p) (e :: es) [] pos) (tE G cl (.bi b cs)) :=
  pe_imp (h ha) fun σ H Q ⟨env, sl, env', E, ev, q⟩ => by
    rw [evalE] at ev
    obtain ⟨ds, e1, ev1, ev⟩ := bindDs_some' ev
    obtain ⟨s, ev2, e2⟩ := map_some' ev
    cases e2
    exact ⟨env, ds, _, E, ev1, fun vs H1 p1 r1 => ⟨ds, _, r1, ev2, Res.of E p1 q⟩⟩

theorem rep_nonD {R : Rc} {H : Hp} {v : V} {d : D} (r : Rep R H v d) : decide (v = .non) = d.isNon := by
  cases d with
  | non => rw [rep_non.mp r]; rfl
  | bl b => rw [rep_bl.mp r]; rfl
  | int b => rw [rep_int.mp r]; rfl
  | str b => rw [rep_str.mp r]; rfl
  | tup ds => obtain ⟨a, xs, rfl, _⟩ := rep_tup.mp r; rfl
  | ls ds => obtain ⟨a, xs, rfl, _⟩ := rep_ls.mp r; rfl
  | fn j => rw [rep_fn.mp r]; rfl
theorem c_isN {a : Expr} {ca : CE} {j : Nat} {p pos : Pos} (ha : PE X a (tE G cl ca)) : PE X (.Compare a [.Is] [.Constant .none j p] pos) (tE G cl (.isN false ca)) :=
  pe_imp (pe_cmp (pc_isN (pe_val ha)) rfl) fun σ H Q ⟨env, sl, env', E, ev, q⟩ => by
    rw [evalE] at ev
    obtain ⟨s1, x, e1, ev1, d1, ev⟩ := bindV_some ev
    cases ev
    refine ⟨env, s1, _, x, E, ev1, d1, fun v H1 p1 r1 => ?_⟩
    show Q (.bl (decide (v = .non))) H1
    rw [rep_nonD r1]
    exact q _ H1 p1 sr_bl
theorem c_notN {a : Expr} {ca : CE} {j : Nat} {p pos : Pos} (ha : PE X a (tE G cl ca)) : PE X (.Compare a [.IsNot] [.Constant .none j p] pos) (tE G cl (.isN true ca)) :=
  pe_imp (pe_cmp (pc_notN (pe_val ha)) rfl) fun σ H Q ⟨env, sl, env', E, ev, q⟩ => by
    rw [evalE] at ev
    obtain ⟨s1, x, e1, ev1, d1, ev⟩ := bindV_some ev
    cases ev
    refine ⟨env, s1, _, x, E, ev1, d1, fun v H1 p1 r1 => ?_⟩
    show Q (.bl (!decide (v = .non))) H1
    rw [rep_nonD r1]
    exact q _ H1 p1 sr_bl
theorem c_and {a b : Expr} {rest : List Expr} {ca cb : CE} {pos : Pos} (ha : PE X a (tE G cl ca)) (hb : PE X (.BoolOp .And (b :: rest) pos) (tE G cl cb)) : PE X (.BoolOp .And (a :: b :: rest) pos) (tE G cl (.and ca cb)) :=
  pe_imp (pe_and (pe_val ha) (pe_val hb)) fun σ H Q ⟨env, sl, env', E, ev, q⟩ => by
    rw [evalE] at ev
    obtain ⟨s1, x, e1, ev1, d1, ev⟩ := bindV_some ev
    split at ev
    · obtain ⟨s2, y, e2, ev2, d2, ev⟩ := bindV_some ev
      cases ev
      refine ⟨env, s1, e1, _, E, ev1, d1, fun v H1 p1 r1 => ⟨true, rep_bl.mp r1, ?_⟩⟩
      refine ⟨e1, s2, _, y, p1.ok, ev2, d2, fun w H2 p2 r2 => ?_⟩
      exact q _ H2 (p1.trans p2) (sr_val r2)
    · cases ev
      refine ⟨env, s1, _, _, E, ev1, d1, fun v H1 p1 r1 => ⟨false, rep_bl.mp r1, ?_⟩⟩
      exact q _ H1 p1 sr_bl
    · cases ev
theorem c_or {a b : Expr} {rest : List Expr} {ca cb : CE} {pos : Pos} (ha : PE X a (tE G cl ca)) (hb : PE X (.BoolOp .Or (b :: rest) pos) (tE G cl cb)) : PE X (.BoolOp .Or (a :: b :: rest) pos) (tE G cl (.or ca cb)) :=
  pe_imp (pe_or (pe_val ha) (pe_val hb)) fun σ H Q ⟨env, sl, env', E, ev, q⟩ => by
    rw [evalE] at ev
    obtain ⟨s1, x, e1, ev1, d1, ev⟩ := bindV_some ev
    split at ev
    · obtain ⟨s2, y, e2, ev2, d2, ev⟩ := bindV_some ev
      cases ev
      refine ⟨env, s1, e1, _, E, ev1, d1, fun v H1 p1 r1 => ⟨false, rep_bl.mp r1, ?_⟩⟩
      refine ⟨e1, s2, _, y, p1.ok, ev2, d2, fun w H2 p2 r2 => ?_⟩
      exact q _ H2 (p1.trans p2) (sr_val r2)
    · cases ev
      refine ⟨env, s1, _, _, E, ev1, d1, fun v H1 p1 r1 => ⟨true, rep_bl.mp r1, ?_⟩⟩
      exact q _ H1 p1 sr_bl
    · cases ev
theorem c_one {a : Expr} {ca : CE} {op : PySem.BoolOp} {pos : Pos} (ha : PE X a (tE G cl ca)) : PE X (.BoolOp op [a] pos) (tE G cl ca) := pe_one ha
theorem c_not (hK : X.K = G.toRc.K) {a : Expr} {ca : CE} {pos : Pos} (ha : PE X a (tE G cl ca)) : PE X (.UnaryOp .Not a pos) (tE G cl (.not ca)) :=
  pe_imp (pe_notT (pe_val ha)) fun σ H Q ⟨env, sl, env', E, ev, q⟩ => by
    rw [evalE] at ev
    obtain ⟨s1, x, e1, ev1, d1, ev⟩ := bindV_some ev
    obtain ⟨b, ev2, e2⟩ := map_some' ev
    cases e2
    exact ⟨env, s1, _, x, E, ev1, d1, fun v H1 p1 r1 => ⟨b, rep_tru hK r1 ev2, q _ H1 p1 sr_bl⟩⟩
theorem c_ife {c a b : Expr} {cc ca cb : CE} {pos : Pos} (hc : PT X c (tT G cl cc)) (ha : PE X a (tE G cl ca)) (hb : PE X b (tE G cl cb)) : PE X (.IfExp c a b pos) (tE G cl (.ife cc ca cb)) :=
  pe_imp (pe_ifExp hc ha hb) fun σ H Q ⟨env, sl, env', E, ev, q⟩ => by
    rw [evalE] at ev
    obtain ⟨x, e1, ev1, ev⟩ := bindB_some' ev
    refine ⟨env, x, e1, E, ev1, fun H1 p1 => ?_⟩
    have up : ∀ v H', Post G e1 σ H1 env' H' → SlotRep G H1 H' sl v → Q v H' := fun v H' p r => q v H' (p1.trans p) (by
      cases sl with
      | own ds =>
        obtain ⟨a, xs, e, hn, h2, rs⟩ := r
        exact ⟨a, xs, e, p1.fr.trk a hn, h2, rs⟩
      | val d => exact r
      | nil => exact r
      | io _ => exact r)
    cases x with
    | true => exact ⟨e1, sl, env', p1.ok, ev, up⟩
    | false => exact ⟨e1, sl, env', p1.ok, ev, up⟩

theorem t_and {a b : Expr} {rest : List Expr} {ca cb : CE} {pos : Pos} (ha : PT X a (tT G cl ca)) (hb : PW X (.BoolOp .And (b :: rest) pos) (tT G cl cb)) : PW X (.BoolOp .And (a :: b :: rest) pos) (tT G cl (.and ca cb)) :=
  ⟨fun whole pins s σ H Q I ⟨env, b, env', E, ev, q⟩ => (pw_and ha hb).run whole pins s σ H Q I (by
    rw [evalT] at ev
    obtain ⟨x, e1, ev1, ev⟩ := bindB_some' ev
    refine ⟨env, x, e1, E, ev1, fun H1 p1 => ?_⟩
    cases x with
    | true => exact ⟨e1, b, env', p1.ok, ev, fun H2 p2 => q H2 (p1.trans p2)⟩
    | false =>
      cases ev
      exact q H1 p1)⟩
theorem t_or {a b : Expr} {rest : List Expr} {ca cb : CE} {pos : Pos} (ha : PT X a (tT G cl ca)) (hb : PW X (.BoolOp .Or (b :: rest) pos) (tT G cl cb)) : PW X (.BoolOp .Or (a :: b :: rest) pos) (tT G cl (.or ca cb)) :=
  ⟨fun whole pins s σ H Q I ⟨env, b, env', E, ev, q⟩ => (pw_or ha hb).run whole pins s σ H Q I (by
    rw [evalT] at ev
    obtain ⟨x, e1, ev1, ev⟩ := bindB_some' ev
    refine ⟨env, x, e1, E, ev1, fun H1 p1 => ?_⟩
    cases x with
    | false => exact ⟨e1, b, env', p1.ok, ev, fun H2 p2 => q H2 (p1.trans p2)⟩
    | true =>
      cases ev
      exact q H1 p1)⟩
theorem t_not {a : Expr} {ca : CE} {pos : Pos} (ha : PT X a (tT G cl ca)) : PT X (.UnaryOp .Not a pos) (tT G cl (.not ca)) :=
  pt_imp (pt_not ha) fun σ H Q ⟨env, b, env', E, ev, q⟩ => by
    rw [evalT] at ev
    obtain ⟨x, e1, ev1, ev⟩ := bindB_some' ev
    cases ev
    exact ⟨env, x, _, E, ev1, fun H1 p1 => q H1 p1⟩
def byVal : CE → Bool
  | .bin .. | .neg .. | .cmp .. | .chain .. | .isN .. | .ix .. | .ixv .. | .call .. | .bi .. | .isi .. => true
  | _ => false
theorem evalT_val {c : CE} {env : En} (h : byVal c = true) : evalT cl c env = bindV (evalE cl c env) fun d e1 => d.truth.map fun b => (b, e1) := by
  cases c <;> first | exact absurd h Bool.false_ne_true | rw [evalT]
theorem t_val (hK : X.K = G.toRc.K) {e : Expr} {c : CE} (hb : byVal c = true) (h : PE X e (tE G cl c)) (he : ∀ whole, isTrue e X.env whole = (do let v ← whole; standAt e.pos; holding [v] (truthy v))) : PT X e (tT G cl c) :=
  pt_imp (pt_truth (pe_val h) he) fun σ H Q ⟨env, b, env', E, ev, q⟩ => by
    rw [evalT_val hb] at ev
    obtain ⟨s1, x, e1, ev1, d1, ev⟩ := bindV_some ev
    obtain ⟨b', ev2, e2⟩ := map_some' ev
    cases e2
    exact ⟨env, s1, _, x, E, ev1, d1, fun v H1 p1 r1 => ⟨_, rep_tru hK r1 ev2, q H1 p1⟩⟩
theorem t_cmp {a b : Expr} {ca cb : CE} {o : COp} {op : CmpOp} {pos : Pos} (ho : OpR X (compareOp op) (rC G.toRc o)) (hm : behindInMarks op b = false) (ha : PE X a (tE G cl ca)) (hb : PE X b (tE G cl cb)) : PT X (.Compare a [op] [b] pos) (tT G cl (.cmp o ca cb)) :=
  pt_imp (pt_cmpR ho (pe_val ha) (pe_val hb) hm) fun σ H Q ⟨env, k, env', E, ev, q⟩ => by
    rw [evalT_val rfl, evalE] at ev
    obtain ⟨s0, x0, e0, ev0, d0, ev⟩ := bindV_some ev
    obtain ⟨k', ev9, e9⟩ := map_some' ev
    cases e9
    obtain ⟨s1, x, e1, ev1, d1, ev0⟩ := bindV_some ev0
    obtain ⟨s2, y, e2, ev2, d2, ev0⟩ := bindV_some ev0
    obtain ⟨s3, ev3, h3⟩ := map_some' ev0
    cases h3
    cases d0
    cases ev9
    refine ⟨env, s1, e1, x, E, ev1, d1, fun v H1 p1 r1 => ?_⟩
    refine ⟨e1, s2, _, y, p1.ok, ev2, d2, fun w H2 p2 r2 => ?_⟩
    exact ⟨x, y, _, r1.keep (p2.fr.kp p1.ok), r2, ev3, _, rfl, q H2 (p1.trans p2)⟩
theorem t_chain {a b c : Expr} {ca cb cc : CE} {o o' : COp} {op op' : CmpOp} {pos : Pos}
    (base : PT X (.Compare a [op, op'] [b, c] pos) (tTest (tChain (rC G.toRc o) (rC G.toRc o') (tV G cl ca) (tV G cl cb) (tV G cl cc)))) : PT X (.Compare a [op, op'] [b, c] pos) (tT G cl (.chain o o' ca cb cc)) :=
  pt_imp base fun σ H Q ⟨env, k, env', E, ev, q⟩ => by
    rw [evalT_val rfl, evalE] at ev
    obtain ⟨s0, x0, e0, ev0, d0, ev⟩ := bindV_some ev
    obtain ⟨k', ev9, e9⟩ := map_some' ev
    cases e9
    obtain ⟨s1, x, e1, ev1, d1, ev0⟩ := bindV_some ev0
    obtain ⟨s2, y, e2, ev2, d2, ev0⟩ := bindV_some ev0
    refine ⟨env, s1, e1, x, E, ev1, d1, fun v H1 p1 r1 => ?_⟩
    refine ⟨e1, s2, e2, y, p1.ok, ev2, d2, fun w H2 p2 r2 => ?_⟩
    split at ev0
    · rename_i hcmp
      obtain ⟨s3, z, e3, ev3, d3, ev0⟩ := bindV_some ev0
      obtain ⟨s4, ev4, h4⟩ := map_some' ev0
      cases h4
      cases d0
      cases ev9
      refine ⟨x, y, true, r1.keep (p2.fr.kp p1.ok), r2, hcmp, true, rfl, ?_⟩
      refine ⟨e2, s3, _, z, p2.ok, ev3, d3, fun w3 H3 p3 r3 => ?_⟩
      exact ⟨y, z, _, r2.keep (p3.fr.kp p2.ok), r3, ev4, _, rfl, q H3 ((p1.trans p2).trans p3)⟩
    · rename_i hcmp
      cases ev0
      cases d0
      cases ev9
      refine ⟨x, y, false, r1.keep (p2.fr.kp p1.ok), r2, hcmp, false, rfl, ?_⟩
      exact ⟨false, rfl, q H2 (p1.trans p2)⟩
    · cases ev0
theorem t_isN {a : Expr} {ca : CE} {n : Bool} {op : CmpOp} {b : Expr} {pos : Pos} (h : PT X (.Compare a [op] [b] pos) (tB (if n then tNotN (tV G cl ca) else tIsN (tV G cl ca)))) : PT X (.Compare a [op] [b] pos) (tT G cl (.isN n ca)) :=
  pt_imp h fun σ H Q ⟨env, k, env', E, ev, q⟩ => by
    rw [evalT_val rfl, evalE] at ev
    obtain ⟨s0, x0, e0, ev0, d0, ev⟩ := bindV_some ev
    obtain ⟨k', ev9, e9⟩ := map_some' ev
    cases e9
    obtain ⟨s1, x, e1, ev1, d1, ev0⟩ := bindV_some ev0
    cases ev0
    cases d0
    cases ev9
    cases n
    all_goals
      refine ⟨env, s1, _, x, E, ev1, d1, fun v H1 p1 r1 => ⟨_, rfl, ?_⟩⟩
      rw [rep_nonD r1]
      exact q H1 p1
theorem rep_read (hK : X.K = G.toRc.K) {env : En} {σ : Sg} {H : Hp} {i : Nat} {d : D} (E : EnvOk G env σ H) (h : readAt env i = some d) : ∃ v, σ[i]? = some (some v) ∧ (∀ b, d.truth = some b → TruV X.K v H b) ∧
    (∀ ds, d = .ls ds → ∃ a xs, v = .ref a ∧ SqL X.K H a xs ∧ Reps G.toRc H xs ds) ∧ ((∀ ds, d ≠ .ls ds) → Rep G.toRc H v d) := by
  unfold readAt at h
  split at h
  · rename_i sl hsl
    have z := E.slot i sl hsl
    cases sl with
    | nil => cases h
    | val d' =>
      cases h
      obtain ⟨v, e, r⟩ := z
      refine ⟨v, e, fun b hb => rep_tru hK r hb, fun ds hd => ?_, fun _ => r⟩
      subst hd
      obtain ⟨a, xs, e2, q, rr⟩ := rep_ls.mp r
      exact ⟨a, xs, e2, q.seqX hK, rr⟩
    | own ds =>
      cases h
      obtain ⟨a, xs, e, ha, rr, _⟩ := z
      refine ⟨_, e, fun b hb => ?_, fun ds' hd => ?_, fun n => absurd rfl (n ds)⟩
      · cases hb
        refine .inl ⟨xs, SqL.of ha, ?_⟩
        have := rr.length
        cases ds <;> cases xs <;> simp_all
      · cases hd
        exact ⟨a, xs, rfl, SqL.of ha, rr⟩
    | io ds =>
      cases h
      obtain ⟨a, xs, e, ha, rr, _⟩ := z
      refine ⟨_, e, fun b hb => ?_, fun ds' hd => ?_, fun n => absurd rfl (n ds)⟩
      · cases hb
        refine .inl ⟨xs, SqL.of ha, ?_⟩
        have := rr.length
        cases ds <;> cases xs <;> simp_all
      · cases hd
        exact ⟨a, xs, rfl, SqL.of ha, rr⟩
  · cases h
theorem t_var (hK : X.K = G.toRc.K) {i : Nat} {x : Str} {pos : Pos} (h : PE X (.Name x pos) (tVar i)) : PT X (.Name x pos) (tT G cl (.var i)) :=
  pt_imp (pt_truth h fun _ => rfl) fun σ H Q ⟨env, b, env', E, ev, q⟩ => by
    rw [evalT] at ev
    split at ev
    · rename_i d hd
      obtain ⟨b', ev2, e2⟩ := map_some' ev
      cases e2
      obtain ⟨v, e, ht, _⟩ := rep_read hK E hd
      exact ⟨v, e, _, ht _ ev2, q H (Post.refl E)⟩
    · cases ev
theorem t_true {j : Nat} {b : Bool} {pos : Pos} : PT X (.Constant (.bool b) j pos) (tT G cl (.cst (.bl b))) :=
  pt_imp (pt_val pe_bl) fun σ H Q ⟨env, k, env', E, ev, q⟩ => by
    rw [evalT] at ev
    cases ev
    exact ⟨_, rfl, q H (Post.refl E)⟩
end
end Pi

-- PiRev
set_option maxHeartbeats 1000000
namespace Pi
open PySem PySem.Spec PyProof.Rows L2 HT
theorem places_back (n : Nat) : Builtin.Slice.sliceAdjust none none (-1) (n : Int) = ((n : Int) - 1, -1) ∧ Builtin.Slice.slicePlaces ((n : Int) - 1) (-1) (-1) = n := by
  constructor
  · rfl
  · unfold Builtin.Slice.slicePlaces
    have h1 : ¬ ((-1 : Int) > 0) := by omega
    simp only [h1, if_false]
    by_cases h : (n : Int) - 1 > -1
    · rw [if_pos h]
      have : ((n : Int) - 1 - -1 - 1) / (- -1) = (n : Int) - 1 := by
        rw [show (- -1 : Int) = 1 by omega, Int.ediv_one]
        omega
      rw [this]
      omega
    · rw [if_neg h]
      omega
theorem pick_back (xs : List Value) : ((List.range xs.length).filterMap fun (m : Nat) => xs.toArray[(((xs.length : Int) - 1) + (m : Int) * (-1)).toNat]?) = xs.reverse := by
  apply List.ext_getElem?
  intro i
  have e : (fun (m : Nat) => xs.toArray[(((xs.length : Int) - 1) + (m : Int) * (-1)).toNat]?) = fun (m : Nat) => xs[(((xs.length : Int) - 1) + (m : Int) * (-1)).toNat]? := by
    funext m
    simp
  rw [e]
  have all : ∀ (l : List Nat), (∀ m ∈ l, m < xs.length) → l.filterMap (fun (m : Nat) => xs[(((xs.length : Int) - 1) + (m : Int) * (-1)).toNat]?) = l.filterMap (fun m => xs.reverse[m]?) := by
    intro l hl
    induction l with
    | nil => rfl
    | cons m l ih =>
      have hm := hl m List.mem_cons_self
      have e2 : xs[(((xs.length : Int) - 1) + (m : Int) * (-1)).toNat]? = xs.reverse[m]? := by
        rw [List.getElem?_reverse hm]
        congr 1
        omega
      rw [List.filterMap_cons, List.filterMap_cons, e2, ih fun k hk => hl k (List.mem_cons_of_mem _ hk)]
  rw [all _ fun m hm => by simpa using hm]
  have self : ∀ (ys : List Value), (List.range ys.length).filterMap (fun m => ys[m]?) = ys := by
    intro ys
    induction ys with
    | nil => rfl
    | cons y ys ih =>
      rw [List.length_cons, List.range_succ_eq_map, List.filterMap_cons]
      simp only [List.getElem?_cons_zero]
      rw [List.filterMap_map]
      have : ((fun m => (y :: ys)[m]?) ∘ Nat.succ) = fun m => ys[m]? := by
        funext m
        simp
      rw [this, ih]
  have := self xs.reverse
  rw [List.length_reverse] at this
  rw [this]
section
variable {prog : Program} {w : World} {A : Around} {E : Value → Shared → Prop} {s : Shared}
theorem applied_back {sl : Addr} {vs : Value} {n : Nat} {Q : Int × Int × Nat → Shared → Prop} (hs : s.heap.IsSliceOf sl .none .none vs) (ps : IsPart vs (some (-1))) (h : Q ((n : Int) - 1, -1, n) s) :
    wpAny (model prog w) A (Builtin.Slice.sliceApplied (.ref sl) (pure (n : Int))) Q E s := by
  obtain ⟨os, hos, hcs, hds⟩ := id hs
  unfold Builtin.Slice.sliceApplied Builtin.Slice.sliceFields
  refine wpAny_bind (wpAny_bind (wpAny_field hos hds (x := Value.none) rfl (wpAny_bind (wpAny_field hos hds (x := Value.none) rfl (wpAny_bind (wpAny_field hos hds (x := vs) rfl (wpAny_pure ?_)))))))
  refine wpAny_bind (slicePart_ ps ?_)
  show wpAny _ _ (if ((-1 : Int) == 0) = true then _ else _) _ _ s
  rw [if_neg (by decide)]
  refine wpAny_bind (slicePart_none (wpAny_bind (slicePart_none (wpAny_bind (wpAny_pure ?_)))))
  obtain ⟨h1, h2⟩ := places_back n
  show wpAny _ _ (match Builtin.Slice.sliceAdjust none none (-1) (n : Int) with | (lo, hi) => pure (lo, (-1 : Int), Builtin.Slice.slicePlaces lo hi (-1))) _ _ s
  rw [h1]
  show wpAny _ _ (pure ((n : Int) - 1, (-1 : Int), Builtin.Slice.slicePlaces ((n : Int) - 1) (-1) (-1))) _ _ s
  rw [h2]
  exact wpAny_pure h
theorem tuple_back {t sl : Addr} {items : List Value} {vs : Value} {Q : Value → Shared → Prop} (ht : IsTup s.heap t items.toArray) (hs : s.heap.IsSliceOf sl .none .none vs) (ps : IsPart vs (some (-1)))
    (h : Q (.ref s.heap.objs.size) { s with heap := s.heap.push { cls := .type "tuple", data := .seq items.reverse.toArray } })
    (hsz : items.length ≤ sizeLine) : wpAny (model prog w) A (getItem (.ref t) (.ref sl)) Q E s := by
  have htake : sizeOk (.seq items.reverse.toArray) := by
    show items.reverse.toArray.size ≤ sizeLine
    rw [List.size_toArray, List.length_reverse]
    exact hsz
  obtain ⟨os, hos, hcs, hds⟩ := id hs
  have hTs : s.TypeIs (.ref sl) "slice" := ⟨os, hos, hcs⟩
  unfold getItem
  try with_reducible refine wpAny_holding ?_
  first | refine wpAny_bind (wpAny_pure ?_) | skip
  refine wpAny_bind (wpAny_sequenceKey ht.typeIs (by decide) ?_)
  refine wpAny_bind (wpAny_callSpecial?_slot (name := Str.ofString "__getitem__") ht.typeIs PyProof.Rows.slot_tuple_getitem
    (wpAny_call_entry PyProof.Rows.slot_tuple_getitem ht.typeIs entry_tuple_getitem ?_ (args_tuple_getitem _ _)))
  show wpAny _ _ (Builtin.Tuple.tupleItemsOf (.ref t) >>= _) _ _ s
  refine wpAny_bind (tupleItemsOf_ ht ?_)
  refine wpAny_bind (wpAny_typeOf hTs ?_)
  rw [if_pos (by decide)]
  have happ : ∀ A' : Around, wpAny (model prog w) A' (Builtin.Slice.sliceApplied (.ref sl) (pure (items.toArray.size : Int))) (fun r s' => r = ((items.length : Int) - 1, -1, items.length) ∧ s' = s) (fun _ _ => False) s := by
    intro A'
    rw [List.size_toArray]
    exact applied_back hs ps ⟨rfl, rfl⟩
  refine wpAny_bind (wpAny_mono (happ _) (fun r s' ⟨e1, e2⟩ => ?_) fun _ _ z => z.elim)
  subst e1 e2
  have hno : ¬ ((((items.length : Int) - 1) == 0 && (-1 : Int) == 1 && items.length == items.toArray.size) = true) := by
    intro q
    rw [Bool.and_eq_true, Bool.and_eq_true] at q
    exact absurd (eq_of_beq q.1.2) (by decide)
  show wpAny _ _ (if (((items.length : Int) - 1) == 0 && (-1 : Int) == 1 && items.length == items.toArray.size) = true then _ else _) _ _ _
  rw [if_neg hno, pick_back]
  first
    | exact wpAny_bind (m := Builtin.Tuple.tupleExact _) (wpAny_newObj_type (wpAny_pure ⟨_, rfl, wpAny_pure h⟩) htake)
    | exact wpAny_bind (m := Builtin.Tuple.tupleExact _) (wpAny_newObj_type (wpAny_bind (wpAny_pure (wpAny_pure ⟨_, rfl, wpAny_pure h⟩))) htake)
    | exact wpAny_bind (wpAny_bind (m := Builtin.Tuple.tupleExact _) (wpAny_newObj_type (wpAny_pure (wpAny_pure ⟨_, rfl, wpAny_pure h⟩)) htake))
    | exact wpAny_bind (wpAny_bind (m := Builtin.Tuple.tupleExact _) (wpAny_newObj_type (wpAny_pure ⟨_, rfl, wpAny_pure h⟩) htake))
end
section
variable {X : Cx} {G : Gh} {cl : Oracle}
theorem c_rev (hK : X.K = G.toRc.K) {e : Expr} {c : CE} {k : Nat} {p1 p2 p3 pos : Pos} (he : PE X e (tE G cl c)) : PE X (.Subscript e (.Slice none none (some (.UnaryOp .USub (.Constant (.int 1) k p1) p2)) p3) pos) (tE G cl (.rev c)) := by
  refine ⟨fun pins s σ H Q I ⟨env, sl, env', E, ev, q⟩ => ?_⟩
  rw [evalE] at ev
  obtain ⟨s1, x, e1, ev1, d1, ev⟩ := bindV_some ev
  obtain ⟨s3, ev3, h3⟩ := map_some' ev
  cases h3
  refine Subscript_ (thn ((pe_val he).run pins s σ H (fun v H' => Post G env σ H env' H' ∧ Rep G.toRc H' v x) I ⟨env, s1, _, x, E, ev1, d1, fun v H' p r => ⟨p, r⟩⟩) fun v s1 ⟨xv, H1, I1, r1, pp, rr⟩ => ?_)
  have qr : Res G.toRc H1 sl Q := Res.of E pp q
  have hst : PO X (some (.UnaryOp .USub (.Constant (.int 1) k p1) p2)) (tPart (tUn (rU fun i => .int (-i)) (tC (.int 1)))) := po_some (pe_un un_neg pe_int)
  refine wpAny_Slice (thn (po_none.run pins s1 σ H1 (fun o H2 => o = none ∧ H2 = H1) I1 ⟨rfl, rfl⟩) fun vl s2 ⟨l, H2, I2, pl, el, e2⟩ => ?_)
  subst el e2
  cases pl
  refine thn (po_none.run pins s2 σ H2 (fun o H3 => o = none ∧ H3 = H2) I2 ⟨rfl, rfl⟩) fun vu s3 ⟨u, H3, I3, pu, eu, e3⟩ => ?_
  subst eu e3
  cases pu
  refine thn (hst.run pins s3 σ H3 (fun o H4 => o = some (-1) ∧ H4 = H3) I3 ⟨1, rfl, -1, rfl, rfl, rfl⟩) fun vs s4 ⟨o, H4, I4, ps, eo, e4⟩ => ?_
  subst eo e4
  have I5 : Inv X pins σ H4 { s4 with heap := s4.heap.push { cls := .type "slice", data := .fields #[.none, .none, vs] } } := I4.kept (t' := s4.toks) fun b ob z => Heap.get?_push_of_some _ z
  cases x <;> try (cases (show (none : Option Slot) = some sl from ev3))
  · cases ev3
    obtain ⟨a, xs, ea, hx, ra⟩ := rep_tup.mp rr
    subst ea
    cases r1
    rw [← hK] at hx
    obtain ⟨its, r, ht, hz⟩ := I5.tuple hx
    have hlen := r.length
    show wpAny (model X.prog X.w) X.A (subscriptTail e (.Slice none none (some (.UnaryOp .USub (.Constant (.int 1) k p1) p2)) p3) (.ref a) (.ref s4.heap.objs.size)) (EP X pins σ Q) X.xe _
    refine tail_any (ops := [.ref a, .ref s4.heap.objs.size]) ht.typeIs PyProof.Rows.slot_tuple_getitem.lookup ?_ (by with_unfolding_all rfl)
    refine tuple_back ht (Heap.IsSliceOf.new _ .none .none vs) ps ?_ (by omega)
    refine ⟨.ref _, _, I5.laid (t' := s4.toks) (o := .tup xs.reverse) (fun b ob z => Heap.get?_push_of_some _ z) (Nat.le_refl _) ?_, rfl, qr.tup ra.rev (I5.hok.fresh (Nat.le_refl _))⟩
    exact ⟨by rw [List.length_reverse]; exact hz, _, r.reverse, IsTup.new _ _⟩
  · cases ev3
    obtain ⟨a, xs, ea, hx, ra⟩ := rep_ls.mp rr
    subst ea
    cases r1
    obtain ⟨its, r, ht, hz⟩ := I5.list (hx.seqX hK)
    have hlen := r.length
    show wpAny (model X.prog X.w) X.A (subscriptTail e (.Slice none none (some (.UnaryOp .USub (.Constant (.int 1) k p1) p2)) p3) (.ref a) (.ref s4.heap.objs.size)) (EP X pins σ Q) X.xe _
    refine tail_any (ops := [.ref a, .ref s4.heap.objs.size]) ht.isList.typeIs (PySem.slot_list_getitem.lookup) ?_ (by with_unfolding_all rfl)
    refine wpAny_getItem_list_slice ht.isList (Heap.IsSliceOf.new _ .none .none vs) .none .none ps (by decide) ?_ (by rw [List.size_toArray]; omega)
    rw [PySem.W.krv_pick]
    refine ⟨.ref _, _, I5.laid (t' := s4.toks) (o := .lst xs.reverse) (fun b ob z => Heap.get?_push_of_some _ z) (Nat.le_refl _) ?_, rfl, qr.lst ra.rev (I5.hok.fresh (Nat.le_refl _))⟩
    exact ⟨by rw [List.length_reverse]; exact hz, _, 0, r.reverse, Heap.get?_push_size _ rfl⟩
end
end Pi

-- PiExpr3
set_option maxHeartbeats 1000000
namespace Pi
open PySem PySem.Spec PyProof.Rows L2
section
variable {X : Cx} {G : Gh} {cl : Oracle}
def noSlice : Expr → Bool
  | .Slice .. => false
  | _ => true
theorem plain_of {b : Expr} (h : noSlice b = true) : PlainIx b := by
  intro o i
  cases b <;> first | rfl | cases h
def rIxD (R : Rc) : R2 := fun v w H Q => ∃ x y d, Rep R H v x ∧ Rep R H w y ∧ ixD x y = some d ∧ ∀ z, Rep R H z d → Q z H
theorem ix_data (hK : X.K = G.toRc.K) : IxR X (rIxD G.toRc) := by
  intro value slice pins s σ H x y v u Q I rx ry h hs
  refine ix_seq value slice pins s σ H x y v u Q I rx ry ?_ hs
  obtain ⟨dx, dy, d, hx, hy, e, q⟩ := h
  cases dx <;> cases dy <;> try (cases (show (none : Option D) = some d from e))
  · simp only [ixD] at e
    split at e
    · rename_i z k hz
      obtain ⟨c, e1, e2⟩ := map_some' e
      subst e2
      exact .inr (.inr ⟨z, k, c, rep_str.mp hx, rep_int.mp hy, hz, e1, q _ (rep_str.mpr rfl)⟩)
    · cases e
  · obtain ⟨a, xs, ea, qa, ra⟩ := rep_tup.mp hx
    obtain ⟨w, e1, r1⟩ := ra.atI e
    rw [← hK] at qa
    exact .inr (.inl ⟨a, xs, _, w, ea, rep_int.mp hy, qa, e1, q _ r1⟩)
  · obtain ⟨a, xs, ea, qa, ra⟩ := rep_ls.mp hx
    obtain ⟨w, e1, r1⟩ := ra.atI e
    exact .inl ⟨a, xs, _, w, ea, rep_int.mp hy, (qa.seqX hK), e1, q _ r1⟩
theorem c_ix (hK : X.K = G.toRc.K) {a b : Expr} {ca cb : CE} {pos : Pos} (hb0 : noSlice b = true) (ha : PE X a (tE G cl ca)) (hb : PE X b (tE G cl cb)) : PE X (.Subscript a b pos) (tE G cl (.ix ca cb)) :=
  pe_imp (pe_ix (ix_data hK) (pe_val ha) (pe_val hb) (plain_of hb0)) fun σ H Q ⟨env, sl, env', E, ev, q⟩ => by
    rw [evalE] at ev
    obtain ⟨s1, x, e1, ev1, d1, ev⟩ := bindV_some ev
    obtain ⟨s2, y, e2, ev2, d2, ev⟩ := bindV_some ev
    obtain ⟨d, ev3, h3⟩ := map_some' ev
    cases h3
    refine ⟨env, s1, e1, x, E, ev1, d1, fun v H1 p1 r1 => ?_⟩
    refine ⟨e1, s2, _, y, p1.ok, ev2, d2, fun w H2 p2 r2 => ?_⟩
    exact ⟨x, y, d, r1.keep (p2.fr.kp p1.ok), r2, ev3, fun z r => q z H2 (p1.trans p2) (sr_val r)⟩
theorem rIx_read (hK : X.K = G.toRc.K) {env : En} {σ : Sg} {H : Hp} {k : Nat} {x y d : D} {v w : V} {Q : VK} (E : EnvOk G env σ H) (hx : readAt env k = some x) (hv : σ[k]? = some (some v)) (r2 : Rep G.toRc H w y) (e : ixD x y = some d) (q : ∀ z, Rep G.toRc H z d → Q z H) : rIx X.K v w H Q := by
  obtain ⟨v', e', htr, hl, hr⟩ := rep_read hK E hx
  rw [hv] at e'; cases e'
  cases x <;> cases y <;> try (cases (show (none : Option D) = some d from e))
  · have r1 := hr (fun ds h => by cases h)
    simp only [ixD] at e
    split at e
    · rename_i z k hz
      obtain ⟨c, e1, e2⟩ := map_some' e
      subst e2
      exact .inr (.inr ⟨z, k, c, rep_str.mp r1, rep_int.mp r2, hz, e1, q _ (rep_str.mpr rfl)⟩)
    · cases e
  · have r1 := hr (fun ds h => by cases h)
    obtain ⟨a, xs, ea, qa, ra⟩ := rep_tup.mp r1
    obtain ⟨w', e1, r3⟩ := ra.atI e
    rw [← hK] at qa
    exact .inr (.inl ⟨a, xs, _, w', ea, rep_int.mp r2, qa, e1, q _ r3⟩)
  · obtain ⟨a, xs, ea, qa, ra⟩ := hl _ rfl
    obtain ⟨w', e1, r3⟩ := ra.atI e
    exact .inl ⟨a, xs, _, w', ea, rep_int.mp r2, qa, e1, q _ r3⟩
theorem c_ixv (hK : X.K = G.toRc.K) {a b : Expr} {k : Nat} {cb : CE} {pos : Pos} (hb0 : noSlice b = true) (ha : PE X a (tVar k)) (hb : PE X b (tE G cl cb)) : PE X (.Subscript a b pos) (tE G cl (.ixv k cb)) :=
  pe_imp (pe_ix (ix_seq (X := X)) ha (pe_val hb) (plain_of hb0)) fun σ H Q ⟨env, sl, env', E, ev, q⟩ => by
    rw [evalE] at ev
    split at ev
    · rename_i hs
      obtain ⟨x0, hx0⟩ := Option.isSome_iff_exists.mp hs
      obtain ⟨v, hv, _⟩ := rep_read hK E hx0
      obtain ⟨s2, y, e2, ev2, d2, ev⟩ := bindV_some ev
      split at ev
      · rename_i x hx
        obtain ⟨d, ev3, h3⟩ := map_some' ev
        cases h3
        refine ⟨v, hv, env, s2, _, y, E, ev2, d2, fun w H2 p2 r2 => ?_⟩
        exact rIx_read hK p2.ok hx hv r2 ev3 fun z r => q z H2 p2 (sr_val r)
      · cases ev
    · cases ev

def tP (G : Gh) (cl : Oracle) (c : CE) : TO := fun σ H Q => ∃ env s env' d o, EnvOk G env σ H ∧ evalE cl c env = some (s, env') ∧ s.toD = some d ∧ partD d = some o ∧ ∀ H', Post G env σ H env' H' → Q o H'
theorem p_none : PO X none (tP G cl (.cst .non)) := ⟨fun pins s σ H Q I ⟨env, sl, env', d, o, E, ev, hd, ho, q⟩ => po_none.run pins s σ H Q I (by
  rw [evalE] at ev
  cases ev
  cases hd
  cases ho
  exact q H (Post.refl E))⟩
theorem p_some {e : Expr} {c : CE} (h : PE X e (tE G cl c)) : PO X (some e) (tP G cl c) := by
  refine ⟨fun pins s σ H Q I ⟨env, sl, env', d, o, E, ev, hd, ho, q⟩ => ?_⟩
  rw [evalPart_some]
  refine thn ((pe_val h).run pins s σ H (fun v H' => Post G env σ H env' H' ∧ Rep G.toRc H' v d) I ⟨env, sl, env', d, E, ev, hd, fun v H' p r => ⟨p, r⟩⟩) fun u s1 ⟨x, H1, I1, r1, pp, rr⟩ => ?_
  cases d <;> try (cases (show (none : Option (Option Int)) = some o from ho))
  · cases ho
    rw [rep_non.mp rr] at r1
    cases r1
    exact ⟨none, H1, I1, .none, q H1 pp⟩
  · cases ho
    rw [rep_int.mp rr] at r1
    obtain ⟨t, rfl⟩ := r1
    exact ⟨_, H1, I1, .int _ t, q H1 pp⟩
def rSl (K : PySem.W.Frag) : V → Option Int → Option Int → Hp → VK → Prop := fun x lo hi H Q => (rSlL K x lo hi H Q ∨ rSlA K x lo hi H Q) ∨ rSlS x lo hi H Q
theorem sl_any : SlR X (rSl X.K) := SlR.or (SlR.or (sl_list (X := X)) (sl_tupA (X := X))) (sl_str (X := X))
theorem cutD_length (ds : List D) (lo hi : Option Int) : (cutD ds lo hi).length ≤ ds.length := by
  unfold cutD
  rw [List.length_take, List.length_drop]
  omega
theorem cut_whole (ds : List D) (lo hi : Option Int) (h : HT.sIx ds.length 0 lo = 0 ∧ HT.sIx ds.length ds.length hi = ds.length) : cutD ds lo hi = ds := by
  unfold cutD
  rw [h.1, h.2]
  simp
theorem rSl_tup (hK : X.K = G.toRc.K) {H : Hp} {v : V} {ds : List D} {l h : Option Int} {Q : VK} (r : Rep G.toRc H v (.tup ds)) (q : Res G.toRc H (.val (.tup (cutD ds l h))) Q) : rSl X.K v l h H Q := by
  obtain ⟨a, xs, ea, qa, ra⟩ := rep_tup.mp r
  have qa' := qa
  rw [← hK] at qa'
  refine .inl (.inr ⟨a, xs, ea, qa', fun hw => ?_, fun hw p np => q.tup (ra.cut l h) np⟩)
  rw [ra.length] at hw
  rw [cut_whole ds l h hw] at q
  subst ea
  exact q.same r
theorem c_sl (hK : X.K = G.toRc.K) {e : Expr} {lo hi : Option Expr} {c cl' ch : CE} {p2 pos : Pos} (he : PE X e (tE G cl c)) (hl : PO X lo (tP G cl cl')) (hh : PO X hi (tP G cl ch)) : PE X (.Subscript e (.Slice lo hi none p2) pos) (tE G cl (.sl c cl' ch)) :=
  pe_imp (pe_slice sl_any (pe_val he) hl hh) fun σ H Q ⟨env, sl, env', E, ev, q⟩ => by
    rw [evalE] at ev
    obtain ⟨s1, x, e1, ev1, d1, ev⟩ := bindV_some ev
    obtain ⟨s2, y, e2, ev2, d2, ev⟩ := bindV_some ev
    obtain ⟨s3, z, e3, ev3, d3, ev⟩ := bindV_some ev
    obtain ⟨s4, ev4, h4⟩ := map_some' ev
    cases h4
    unfold slD at ev4
    split at ev4
    · rename_i l h hl hh
      refine ⟨env, s1, e1, x, E, ev1, d1, fun v H1 p1 r1 => ?_⟩
      refine ⟨e1, s2, e2, y, l, p1.ok, ev2, d2, hl, fun H2 p2 => ?_⟩
      refine ⟨e2, s3, _, z, h, p2.ok, ev3, d3, hh, fun H3 p3 => ?_⟩
      have r3 := (r1.keep (p2.fr.kp p1.ok)).keep (p3.fr.kp p2.ok)
      have qr := Res.of E ((p1.trans p2).trans p3) q
      split at ev4 <;> try cases ev4
      · exact rSl_tup hK r3 qr
      · obtain ⟨a, xs, ea, qa, ra⟩ := rep_ls.mp r3
        exact .inl (.inl ⟨a, xs, ea, (qa.seqX hK), fun p np => qr.lst (ra.cut l h) np⟩)
      · split at ev4
        · cases ev4
          exact .inr ⟨_, rep_str.mp r3, by assumption, qr _ H3 (Ext.refl _) (rep_str.mpr rfl)⟩
        · cases ev4
    · cases ev4
theorem c_slv (hK : X.K = G.toRc.K) {e : Expr} {lo hi : Option Expr} {k : Nat} {cl' ch : CE} {p2 pos : Pos} (he : PE X e (tVar k)) (hl : PO X lo (tP G cl cl')) (hh : PO X hi (tP G cl ch)) : PE X (.Subscript e (.Slice lo hi none p2) pos) (tE G cl (.slv k cl' ch)) :=
  pe_imp (pe_slice sl_any he hl hh) fun σ H Q ⟨env, sl, env', E, ev, q⟩ => by
    rw [evalE] at ev
    split at ev
    · rename_i hs
      obtain ⟨x0, hx0⟩ := Option.isSome_iff_exists.mp hs
      obtain ⟨v, hv, _⟩ := rep_read hK E hx0
      obtain ⟨s2, y, e2, ev2, d2, ev⟩ := bindV_some ev
      obtain ⟨s3, z, e3, ev3, d3, ev⟩ := bindV_some ev
      split at ev
      · rename_i x hx
        obtain ⟨s4, ev4, h4⟩ := map_some' ev
        cases h4
        unfold slD at ev4
        split at ev4
        · rename_i l h hl hh
          refine ⟨v, hv, env, s2, e2, y, l, E, ev2, d2, hl, fun H2 p2 => ?_⟩
          refine ⟨e2, s3, _, z, h, p2.ok, ev3, d3, hh, fun H3 p3 => ?_⟩
          have qr := Res.of E (p2.trans p3) q
          obtain ⟨v', e', _, hls, hrs⟩ := rep_read hK p3.ok hx
          rw [hv] at e'; cases e'
          split at ev4 <;> try cases ev4
          · exact rSl_tup hK (hrs (fun ds h => by cases h)) qr
          · obtain ⟨a, xs, ea, qa, ra⟩ := hls _ rfl
            exact .inl (.inl ⟨a, xs, ea, qa, fun p np => qr.lst (ra.cut l h) np⟩)
          · split at ev4
            · cases ev4
              exact .inr ⟨_, rep_str.mp (hrs (fun ds h => by cases h)), by assumption, qr _ H3 (Ext.refl _) (rep_str.mpr rfl)⟩
            · cases ev4
        · cases ev4
      · cases ev
    · cases ev

theorem c_lenv (hK : X.K = G.toRc.K) {x : Str} {p p1 pos : Pos} {k : Nat} (h : ∀ {t : TE} {r : List V → Hp → VK → Prop}, CallR X (.builtin "len") r → PE X (.Name x p1) t → PE X (.Call (.Name "len" p) [.Name x p1] [] pos) (tCB r (tCons t tNil))) (hv : PE X (.Name x p1) (tVar k)) :
    PE X (.Call (.Name "len" p) [.Name x p1] [] pos) (tE G cl (.lenv k)) :=
  pe_imp (h (CallR.or (call_len_seq (X := X)) (call_len_str (X := X))) hv) fun σ H Q ⟨env, sl, env', E, ev, q⟩ => by
    rw [evalE] at ev
    split at ev
    · rename_i d hd
      obtain ⟨s4, ev4, h4⟩ := map_some' ev
      cases h4
      obtain ⟨v, hv, _, hl, hr⟩ := rep_read hK E hd
      refine ⟨v, hv, ?_⟩
      have qr := Res.of E (Post.refl E) q
      replace ev4 : biLen [d] = some sl := ev4
      unfold biLen at ev4
      split at ev4
      · rename_i ds e
        cases e
        cases ev4
        obtain ⟨a, xs, ea, qa, ra⟩ := rep_tup.mp (hr (fun ds h => by cases h))
        rw [← hK] at qa
        refine .inl ⟨a, xs, by rw [ea], .inr qa, ?_⟩
        rw [ra.length]
        exact qr.int
      · rename_i ds e
        cases e
        cases ev4
        obtain ⟨a, xs, ea, qa, ra⟩ := hl _ rfl
        refine .inl ⟨a, xs, by rw [ea], .inl qa, ?_⟩
        rw [ra.length]
        exact qr.int
      · rename_i z e
        cases e
        split at ev4 <;> cases ev4
        rename_i hz
        refine .inr ⟨z, by rw [rep_str.mp (hr (fun ds h => by cases h))], hz, qr.int⟩
      · cases ev4
    · cases ev
def rIsT (R : Rc) (t : Ty) : List V → Hp → VK → Prop := fun xs H Q => ∃ v d b, xs = [v, .ty (tyName t)] ∧ Rep R H v d ∧ isTy t d = some b ∧ Q (.bl b) H
theorem call_isT (hK : X.K = G.toRc.K) (t : Ty) : CallR X (.builtin "isinstance") (rIsT G.toRc t) := by
  intro pins s σ H xs us Q I rv h
  obtain ⟨v, d, b, rfl, r, e, q⟩ := h
  obtain ⟨u1, u2, rfl, r1, r2⟩ := vals2 rv
  cases (show u2 = Value.type (tyName t) from r2)
  exact bi_isi hK I r1 r e q
theorem c_isi (hK : X.K = G.toRc.K) {e : Expr} {c : CE} {t : Ty} {y : Str} {p p1 pos : Pos} (he : PE X e (tE G cl c)) (hy : PE X (.Name y p1) (tC (.ty (tyName t))))
    (h : ∀ {t' : TA} {r : List V → Hp → VK → Prop}, CallR X (.builtin "isinstance") r → PA X [e, .Name y p1] t' → PE X (.Call (.Name "isinstance" p) [e, .Name y p1] [] pos) (tCB r t')) (hs : isStar e = false) :
    PE X (.Call (.Name "isinstance" p) [e, .Name y p1] [] pos) (tE G cl (.isi c t)) :=
  pe_imp (h (call_isT hK t) (pa_cons (pe_val he) (pa_cons hy pa_nil) (star_one hs))) fun σ H Q ⟨env, sl, env', E, ev, q⟩ => by
    rw [evalE] at ev
    obtain ⟨s1, x, e1, ev1, d1, ev⟩ := bindV_some ev
    obtain ⟨b, ev4, h4⟩ := map_some' ev
    cases h4
    exact ⟨env, s1, _, x, E, ev1, d1, fun v H1 p1 r1 => ⟨v, x, b, rfl, r1, ev4, q _ H1 p1 sr_bl⟩⟩
theorem list_at {env : En} {σ : Sg} {H : Hp} {i : Nat} {ds : List D} (E : EnvOk G env σ H) (h : listAt env i = some ds) : ∃ s a xs, env[i]? = some s ∧ s.isMut = true ∧ s.list = some ds ∧ σ[i]? = some (some (V.ref a)) ∧ H a = some (.lst xs) ∧ Reps G.toRc H xs ds := by
  unfold listAt at h
  split at h
  · rename_i s hs
    have z := E.slot i s hs
    cases s with
    | nil => cases h
    | val d => cases h
    | own ds' =>
      cases h
      obtain ⟨a, xs, e, ha, r, _⟩ := z
      exact ⟨_, a, xs, hs, rfl, rfl, e, ha, r⟩
    | io ds' =>
      cases h
      obtain ⟨a, xs, e, ha, r, _⟩ := z
      exact ⟨_, a, xs, hs, rfl, rfl, e, ha, r⟩
  · cases h
theorem put_list {env env1 : En} {σ : Sg} {H : Hp} {i : Nat} {es : List D} {s : Slot} {a : Addr} {ys : List V} (E : EnvOk G env σ H) (he : env[i]? = some s) (hm : s.isMut = true) (hσ : σ[i]? = some (some (V.ref a))) (h : putList env i es = some env1)
    (r : Reps G.toRc (upd H a (.lst ys)) ys es) : Post G env σ H env1 (upd H a (.lst ys)) := by
  have z := E.slot i s he
  unfold putList at h
  rw [he] at h
  cases s with
  | nil => cases hm
  | val d => cases hm
  | own ds =>
    cases h
    obtain ⟨b, xs, e, hb, rr, h0⟩ := z
    rw [hσ] at e; cases e
    exact Post.put E he rfl hσ ⟨_, ys, hσ, upd_same, r, h0⟩ (fun ds h => by cases h)
  | io ds =>
    cases h
    obtain ⟨b, xs, e, hb, rr, h0⟩ := z
    rw [hσ] at e; cases e
    exact Post.put E he rfl hσ ⟨_, ys, hσ, upd_same, r, h0⟩ (fun ds h => ⟨_, rfl⟩)
theorem reps_last {R : Rc} {H : Hp} {ds : List D} {d : D} {xs : List V} (r : Reps R H xs ds) (h : ds.getLast? = some d) : ∃ v, xs[xs.length - 1]? = some v ∧ Rep R H v d := by
  rw [List.getLast?_eq_getElem?] at h
  rw [r.length]
  exact r.get h
theorem c_pop {k : Nat} {x : Str} {apos cpos p1 : Pos} (hv : PE X (.Name x p1) (tVar k)) (hbase : attributeBase (.Name x p1) "pop" X.env (eval (.Name x p1) X.env) = eval (.Name x p1) X.env) (hline : (apos.endLine == cpos.line) = true) :
    PE X (.Call (.Attribute (.Name x p1) "pop" apos) [] [] cpos) (tE G cl (.pop k)) :=
  pe_imp (pe_bm0 PySem.F.plainAttrs_list PySem.F.slot_list_pop PySem.F.type_list_pop mt_pop hv hbase hline) fun σ H Q ⟨env, sl, env', E, ev, q⟩ => by
    rw [evalE] at ev
    split at ev
    · rename_i ds hd
      split at ev
      · rename_i d hl
        obtain ⟨e1, ev4, h4⟩ := map_some' ev
        cases h4
        obtain ⟨s, a, xs, he, hm, _, hσ, ha, r⟩ := list_at E hd
        obtain ⟨v, e2, rv⟩ := reps_last r hl
        refine ⟨.ref a, hσ, .inl ⟨rfl, xs, SqL.of ha⟩, a, xs, v, rfl, rfl, ha, e2, ?_⟩
        exact q v _ (put_list E he hm hσ ev4 ((r.keep (Kp.put ha)).dropLast)) (sr_val (rv.keep (Kp.put ha)))
      · cases ev
    · cases ev
end
end Pi

-- PiCall
set_option maxHeartbeats 1000000
namespace Pi
open PySem PySem.Spec PyProof.Rows L2

def ArgOk (R : Rc) (H : Hp) : Slot → V → Prop
  | .val d, v => Rep R H v d
  | .own ds, v => ∃ a xs, v = .ref a ∧ H a = some (.lst xs) ∧ Reps R H xs ds
  | _, _ => False
def ArgsOk (R : Rc) (H : Hp) : List Slot → List V → Prop
  | [], [] => True
  | s :: ss, v :: vs => ArgOk R H s v ∧ ArgsOk R H ss vs
  | _, _ => False
def ownsOf : List Slot → List V → List Addr
  | .own _ :: ss, .ref a :: vs => a :: ownsOf ss vs
  | _ :: ss, _ :: vs => ownsOf ss vs
  | _, _ => []
def OutsOk (R : Rc) (H : Hp) : List Addr → List (List D) → Prop
  | [], [] => True
  | a :: as, ds :: dss => (∃ xs, H a = some (.lst xs) ∧ Reps R H xs ds) ∧ OutsOk R H as dss
  | _, _ => False
def RetOk (R : Rc) (H H' : Hp) : Slot → V → Prop
  | .val d, v => Rep R H' v d
  | .own ds, v => ∃ a xs, v = .ref a ∧ H a = none ∧ H' a = some (.lst xs) ∧ Reps R H' xs ds
  | _, _ => False
structure Aft (R : Rc) (H : Hp) (args : List Slot) (vs : List V) (r : Slot) (outs : List (List D)) (v : V) (H' : Hp) : Prop where
  ret : RetOk R H H' r v
  outs : OutsOk R H' (ownsOf args vs) outs
  keep : ∀ a o, H a = some o → a ∉ ownsOf args vs → H' a = some o
  trk : ∀ a, H' a = none → H a = none
  apart : True
def tCallV (i : Nat) (Hd : Addr → Sp → Prop) (t : TA) : TE := fun σ H Q => ∃ f sp, σ[i]? = some (some (.ref f)) ∧ Hd f sp ∧ t σ H fun vs H1 => sp vs H1 Q (fun _ _ _ => False)
def spO (R : Rc) (cl : Oracle) (j : Nat) : Sp := fun vs H Q _ => ∃ args r outs, ArgsOk R H args vs ∧ (ownsOf args vs).Nodup ∧ cl j args = some (r, outs) ∧ ∀ v H', Aft R H args vs r outs v H' → Q v H'

theorem ArgsOk.length {R : Rc} {H : Hp} : ∀ {ss : List Slot} {vs : List V}, ArgsOk R H ss vs → vs.length = ss.length
  | [], [], _ => rfl
  | [], _ :: _, h => h.elim
  | _ :: _, [], h => h.elim
  | s :: ss, v :: vs, h => by simp [ArgsOk.length h.2]

section
variable {X : Cx} {G : Gh} {cl : Oracle}
def AsOk (G : Gh) (env' : En) (σ : Sg) (H' : Hp) : CEs → List Slot → List V → Prop
  | .nil, [], [] => True
  | .cons (.io i) es, .own ds :: ss, v :: vs => (∃ a, v = .ref a ∧ σ[i]? = some (some (V.ref a)) ∧ listAt env' i = some ds) ∧ AsOk G env' σ H' es ss vs
  | .cons (.io _) _, _, _ => False
  | .cons _ es, .val d :: ss, v :: vs => Rep G.toRc H' v d ∧ AsOk G env' σ H' es ss vs
  | _, _, _ => False
def tAs (G : Gh) (cl : Oracle) (c : CEs) : TA := fun σ H Q => ∃ env ss env', EnvOk G env σ H ∧ evalAs cl c env = some (ss, env') ∧ ∀ vs H', Post G env σ H env' H' → AsOk G env' σ H' c ss vs → Q vs H'
theorem a_nil : PA X [] (tAs G cl .nil) := pa_imp pa_nil fun σ H Q ⟨env, ds, env', E, ev, q⟩ => by
  rw [evalAs] at ev
  cases ev
  exact q [] H (Post.refl E) trivial
def isIo : CE → Bool
  | .io _ => true
  | _ => false
theorem evalAs_cons {c : CE} {cs : CEs} {env : En} (h : isIo c = false) : evalAs cl (.cons c cs) env = bindV (evalE cl c env) fun d e1 => bindSs (evalAs cl cs e1) fun ds e2 => some (.val d :: ds, e2) := by
  cases c <;> first | exact absurd (show true = false from h) (by decide) | rw [evalAs]
  all_goals (intro i hi; cases hi)
theorem asOk_cons {env' : En} {σ : Sg} {H' : Hp} {c : CE} {cs : CEs} {d : D} {ss : List Slot} {v : V} {vs : List V} (h : isIo c = false) (h1 : Rep G.toRc H' v d) (h2 : AsOk G env' σ H' cs ss vs) : AsOk G env' σ H' (.cons c cs) (.val d :: ss) (v :: vs) := by
  cases c <;> first | exact absurd (show true = false from h) (by decide) | exact ⟨h1, h2⟩
theorem a_cons {e : Expr} {es : List Expr} {c : CE} {cs : CEs} (hio : isIo c = false) (hs : isStar e = false) (he : PE X e (tE G cl c)) (hr : PA X es (tAs G cl cs)) : PA X (e :: es) (tAs G cl (.cons c cs)) :=
  pa_imp (pa_cons (pe_val he) hr (star_one hs)) fun σ H Q ⟨env, ds, env', E, ev, q⟩ => by
    rw [evalAs_cons hio] at ev
    obtain ⟨s1, x, e1, ev1, d1, ev⟩ := bindV_some ev
    obtain ⟨xs, e2, ev2, ev⟩ := bindSs_some' ev
    cases ev
    refine ⟨env, s1, e1, x, E, ev1, d1, fun v H1 p1 r1 => ?_⟩
    refine ⟨e1, xs, _, p1.ok, ev2, fun vs H2 p2 r2 => ?_⟩
    exact q _ H2 (p1.trans p2) (asOk_cons hio (r1.keep (p2.fr.kp p1.ok)) r2)
theorem a_io {x : Str} {p : Pos} {i : Nat} {es : List Expr} {cs : CEs} (hv : PE X (.Name x p) (tVar i)) (hK : X.K = G.toRc.K) (hr : PA X es (tAs G cl cs)) : PA X (.Name x p :: es) (tAs G cl (.cons (.io i) cs)) :=
  ⟨fun pos pins s σ H Q I ⟨env, ds, env', E, ev, q⟩ => by
    rw [evalAs] at ev
    split at ev
    · rename_i hs
      obtain ⟨d0, hd0⟩ := Option.isSome_iff_exists.mp hs
      obtain ⟨_, a, _, _, _, _, hσ, _, _⟩ := list_at E hd0
      obtain ⟨xs, e1, ev1, ev⟩ := bindSs_some' ev
      split at ev
      · rename_i ds hd
        cases ev
        refine (pa_cons hv hr (star_one (e := .Name x p) rfl)).run pos pins s σ H Q I ⟨_, hσ, env, xs, _, E, ev1, fun vs H2 p2 r2 => ?_⟩
        exact q _ H2 p2 ⟨⟨a, rfl, hσ, hd⟩, r2⟩
      · cases ev
    · cases ev⟩

theorem putList_at {env env1 : En} {i : Nat} {ds : List D} (h : putList env i ds = some env1) : (∀ j, j ≠ i → env1[j]? = env[j]?) ∧ ((∃ d0, env[i]? = some (Slot.own d0) ∧ env1[i]? = some (Slot.own ds)) ∨ (∃ d0, env[i]? = some (Slot.io d0) ∧ env1[i]? = some (Slot.io ds))) ∧ env1.length = env.length := by
  unfold putList at h
  split at h <;> cases h
  · rename_i d0 e
    have hi := (List.getElem?_eq_some_iff.mp e).1
    exact ⟨fun j hj => List.getElem?_set_ne (Ne.symm hj), .inl ⟨d0, e, List.getElem?_set_self hi⟩, List.length_set⟩
  · rename_i d0 e
    have hi := (List.getElem?_eq_some_iff.mp e).1
    exact ⟨fun j hj => List.getElem?_set_ne (Ne.symm hj), .inr ⟨d0, e, List.getElem?_set_self hi⟩, List.length_set⟩
structure Chg (R : Rc) (H : Hp) (as : List Addr) (dss : List (List D)) (H' : Hp) : Prop where
  outs : OutsOk R H' as dss
  keep : ∀ a o, H a = some o → a ∉ as → H' a = some o
  trk : ∀ a, H' a = none → H a = none
def AtOk (env : En) (σ : Sg) : List Nat → List Addr → Prop
  | [], [] => True
  | i :: is, a :: as => (∃ ds, listAt env i = some ds) ∧ σ[i]? = some (some (V.ref a)) ∧ AtOk env σ is as
  | _, _ => False
theorem putLists_char : ∀ {is : List Nat} {dss : List (List D)} {env env1 : En}, putLists env is dss = some env1 → is.Nodup → env1.length = env.length ∧ (∀ j, j ∉ is → env1[j]? = env[j]?) ∧
    ∀ (k j : Nat), is[k]? = some j → ∃ ds : List D, dss[k]? = some ds ∧ ((∃ d0, env[j]? = some (Slot.own d0) ∧ env1[j]? = some (Slot.own ds)) ∨ (∃ d0, env[j]? = some (Slot.io d0) ∧ env1[j]? = some (Slot.io ds))) := by
  intro is
  induction is with
  | nil =>
    intro dss env env1 h nd
    cases dss with
    | nil => cases h; exact ⟨rfl, fun _ _ => rfl, fun k j e => by simp at e⟩
    | cons _ _ => cases h
  | cons i is ih =>
    intro dss env env1 h nd
    cases dss with
    | nil => cases h
    | cons ds dss =>
      unfold putLists at h
      split at h
      · rename_i env2 h2
        obtain ⟨ni, nd2⟩ := List.nodup_cons.mp nd
        obtain ⟨c1, c2, c3⟩ := putList_at h2
        obtain ⟨l, o1, o2⟩ := ih h nd2
        refine ⟨l.trans c3, fun j hj => ?_, fun k j e => ?_⟩
        · rw [List.mem_cons, not_or] at hj
          rw [o1 j hj.2, c1 j hj.1]
        · cases k with
          | zero =>
            simp at e
            subst e
            refine ⟨ds, rfl, ?_⟩
            rw [o1 _ ni]
            exact c2
          | succ k =>
            have e' : is[k]? = some j := by simpa using e
            obtain ⟨ds', e1, e2⟩ := o2 k j e'
            have hji : j ≠ i := fun z => ni (z ▸ List.mem_of_getElem? e')
            rw [c1 j hji] at e2
            exact ⟨ds', by simpa using e1, e2⟩
      · cases h
theorem OutsOk.get {R : Rc} {H : Hp} : ∀ {as : List Addr} {dss : List (List D)} {k : Nat} {a : Addr} {ds : List D}, OutsOk R H as dss → as[k]? = some a → dss[k]? = some ds → ∃ xs, H a = some (.lst xs) ∧ Reps R H xs ds
  | [], [], k, _, _, _, e, _ => by simp at e
  | [], _ :: _, _, _, _, h, _, _ => h.elim
  | _ :: _, [], _, _, _, h, _, _ => h.elim
  | a :: as, ds :: dss, k, _, _, h, e, e2 => by
    cases k with
    | zero => simp at e e2; subst e e2; exact h.1
    | succ k => exact OutsOk.get h.2 (by simpa using e) (by simpa using e2)
theorem AtOk.get {env : En} {σ : Sg} : ∀ {is : List Nat} {as : List Addr} {k i : Nat}, AtOk env σ is as → is[k]? = some i → ∃ a ds, as[k]? = some a ∧ listAt env i = some ds ∧ σ[i]? = some (some (V.ref a))
  | [], [], k, _, _, e => by simp at e
  | [], _ :: _, _, _, h, _ => h.elim
  | _ :: _, [], _, _, h, _ => h.elim
  | j :: is, a :: as, k, i, h, e => by
    obtain ⟨⟨ds, h1⟩, h2, h3⟩ := h
    cases k with
    | zero => simp at e; subst e; exact ⟨a, ds, rfl, h1, h2⟩
    | succ k =>
      obtain ⟨b, es, q1, q2, q3⟩ := AtOk.get h3 (show is[k]? = some i by simpa using e)
      exact ⟨b, es, by simpa using q1, q2, q3⟩
theorem AtOk.mem {env : En} {σ : Sg} : ∀ {is : List Nat} {as : List Addr} {a : Addr}, AtOk env σ is as → a ∈ as → ∃ i ds, i ∈ is ∧ listAt env i = some ds ∧ σ[i]? = some (some (V.ref a))
  | [], [], _, _, e => by simp at e
  | [], _ :: _, _, h, _ => h.elim
  | _ :: _, [], _, h, _ => h.elim
  | j :: is, b :: as, a, h, e => by
    obtain ⟨⟨ds, h1⟩, h2, h3⟩ := h
    rcases List.mem_cons.mp e with rfl | e
    · exact ⟨j, ds, List.mem_cons_self, h1, h2⟩
    · obtain ⟨i, es, q1, q2, q3⟩ := AtOk.mem h3 e
      exact ⟨i, es, List.mem_cons_of_mem _ q1, q2, q3⟩
theorem AtOk.mut {env : En} {σ : Sg} {H : Hp} {is : List Nat} {as : List Addr} {a : Addr} (E : EnvOk G env σ H) (h : AtOk env σ is as) (m : a ∈ as) : MutAt env σ a := by
  obtain ⟨i, ds, _, h1, h2⟩ := h.mem m
  obtain ⟨s, b, xs, e1, e2, _, e3, _, _⟩ := list_at E h1
  exact ⟨i, s, e1, e2, h2⟩
theorem chg_post {σ : Sg} {is : List Nat} {as : List Addr} {dss : List (List D)} {env env1 : En} {H H' : Hp} (E : EnvOk G env σ H) (A : AtOk env σ is as) (nd : is.Nodup) (c : Chg G.toRc H as dss H') (h : putLists env is dss = some env1) : Post G env σ H env1 H' := by
  obtain ⟨hl, h1, h2⟩ := putLists_char h nd
  have kp : Kp H H' := by
    refine ⟨fun b zs e => c.keep b _ e fun m => ?_, fun b ob u e => c.keep b _ e fun m => ?_⟩
    · obtain ⟨ys, q⟩ := (A.mut E m).lst E
      rw [e] at q; cases q
    · obtain ⟨ys, q⟩ := (A.mut E m).lst E
      rw [e] at q; cases q
  -- each slot: as it was, or a list that has changed
  have each : ∀ (j : Nat) (s : Slot), env1[j]? = some s → (env[j]? = some s ∧ j ∉ is) ∨ (∃ s0 a, j ∈ is ∧ env[j]? = some s0 ∧ s0.isMut = true ∧ s.isMut = true ∧ σ[j]? = some (some (V.ref a)) ∧ SlotOk G H' σ j s ∧ (∀ ds, s0 = .io ds → ∃ ds', s = .io ds')) := by
    intro j s hs
    by_cases hj : j ∈ is
    · obtain ⟨k, hk, e⟩ := List.getElem_of_mem hj
      have hk' : is[k]? = some j := by rw [List.getElem?_eq_getElem hk, e]
      obtain ⟨a, ds0, q1, q2, q3⟩ := A.get hk'
      obtain ⟨ds, q4, q5⟩ := h2 k j hk'
      obtain ⟨xs, q6, q7⟩ := c.outs.get q1 q4
      rcases q5 with ⟨d0, e0, e1⟩ | ⟨d0, e0, e1⟩
      · rw [e1] at hs; cases hs
        obtain ⟨b, ys, w1, w2, w3, w4⟩ := E.slot j _ e0
        rw [q3] at w1; cases w1
        exact .inr ⟨_, a, hj, e0, rfl, rfl, q3, ⟨a, xs, q3, q6, q7, w4⟩, fun ds z => by cases z⟩
      · rw [e1] at hs; cases hs
        obtain ⟨b, ys, w1, w2, w3, w4⟩ := E.slot j _ e0
        rw [q3] at w1; cases w1
        exact .inr ⟨_, a, hj, e0, rfl, rfl, q3, ⟨a, xs, q3, q6, q7, w4⟩, fun ds z => ⟨_, rfl⟩⟩
    · rw [h1 j hj] at hs
      exact .inl ⟨hs, hj⟩
  have back : ∀ (j : Nat) (s : Slot), env1[j]? = some s → s.isMut = true → ∃ s0, env[j]? = some s0 ∧ s0.isMut = true := fun j s hs hm => by
    rcases each j s hs with ⟨e, _⟩ | ⟨s0, a, _, e, m0, _⟩
    · exact ⟨s, e, hm⟩
    · exact ⟨s0, e, m0⟩
  have apart : ∀ (j : Nat) (s : Slot) (b : Addr), j ∉ is → env[j]? = some s → s.isMut = true → σ[j]? = some (some (V.ref b)) → b ∉ as := fun j s b hj e hm hb m => by
    obtain ⟨i, ds, q1, q2, q3⟩ := A.mem m
    obtain ⟨s', b', _, w1, w2, _, w3, _, _⟩ := list_at E q2
    exact hj ((E.sep j i s s' b e w1 hm w2 hb q3) ▸ q1)
  refine ⟨⟨hl.trans E.len, fun j s hs => ?_, fun i j s t a e1 e2 m1 m2 q1 q2 => ?_, fun a o e n => ?_, fun p hp => ?_⟩, ⟨fun a o e n => c.keep a o e fun m => n (A.mut E m), c.trk⟩, fun j s e m => back j s e m⟩
  · rcases each j s hs with ⟨e, hj⟩ | ⟨s0, a, _, _, _, _, _, ok, _⟩
    · have z := E.slot j s e
      cases s with
      | nil => trivial
      | val d =>
        obtain ⟨v, w1, w2⟩ := z
        exact ⟨v, w1, w2.keep kp⟩
      | own ds =>
        obtain ⟨b, ys, w1, w2, w3, w4⟩ := z
        exact ⟨b, ys, w1, c.keep b _ w2 (apart j _ b hj e rfl w1), w3.keep kp, w4⟩
      | io ds =>
        obtain ⟨b, ys, w1, w2, w3, w4⟩ := z
        exact ⟨b, ys, w1, c.keep b _ w2 (apart j _ b hj e rfl w1), w3.keep kp, w4⟩
    · exact ok
  · obtain ⟨s0, f1, g1⟩ := back i s e1 m1
    obtain ⟨t0, f2, g2⟩ := back j t e2 m2
    exact E.sep i j s0 t0 a f1 f2 g1 g2 q1 q2
  · refine c.keep a o (E.fr a o e n) fun m => ?_
    obtain ⟨i, ds, q1, q2, q3⟩ := A.mem m
    obtain ⟨s', b', _, w1, w2, _, w3, _, _⟩ := list_at E q2
    have z := E.slot i s' w1
    cases s' with
    | nil => cases w2
    | val d => cases w2
    | own ds =>
      obtain ⟨b, ys, u1, u2, u3, u4⟩ := z
      rw [q3] at u1; cases u1
      rw [e] at u4; cases u4
    | io ds =>
      obtain ⟨b, ys, u1, u2, u3, u4⟩ := z
      rw [q3] at u1; cases u1
      exact n (List.mem_map.mpr ⟨_, u4, rfl⟩)
  · obtain ⟨ds, e, q⟩ := E.iok p hp
    by_cases hj : p.1 ∈ is
    · obtain ⟨k, hk, ek⟩ := List.getElem_of_mem hj
      have hk' : is[k]? = some p.1 := by rw [List.getElem?_eq_getElem hk, ek]
      obtain ⟨ds', _, q5⟩ := h2 k p.1 hk'
      rcases q5 with ⟨d0, e0, e1⟩ | ⟨d0, e0, e1⟩
      · rw [e] at e0; cases e0
      · exact ⟨ds', e1, q⟩
    · exact ⟨ds, by rw [h1 _ hj]; exact e, q⟩

theorem isIo_true {c : CE} (h : isIo c = true) : ∃ i, c = .io i := by
  cases c <;> first | exact ⟨_, rfl⟩ | exact absurd (show false = true from h) (by decide)
theorem asOk_inv {env' : En} {σ : Sg} {H' : Hp} {c : CE} {cs : CEs} {s : Slot} {ss : List Slot} {v : V} {vs : List V} (h : isIo c = false) (a : AsOk G env' σ H' (.cons c cs) (s :: ss) (v :: vs)) : ∃ d, s = .val d ∧ Rep G.toRc H' v d ∧ AsOk G env' σ H' cs ss vs := by
  cases s with
  | val d => exact ⟨d, rfl, by cases c <;> first | exact absurd (show true = false from h) (by decide) | exact a⟩
  | own ds => exact False.elim (by cases c <;> first | exact absurd (show true = false from h) (by decide) | exact a)
  | nil => exact False.elim (by cases c <;> exact a)
  | io ds => exact False.elim (by cases c <;> exact a)
theorem ios_cons {c : CE} {cs : CEs} (h : isIo c = false) : iosOf (.cons c cs) = iosOf cs := by
  cases c <;> first | exact absurd (show true = false from h) (by decide) | rfl
theorem asOk_args {env' : En} {σ : Sg} {H' : Hp} (E : EnvOk G env' σ H') : ∀ {es : CEs} {ss : List Slot} {vs : List V}, AsOk G env' σ H' es ss vs → ArgsOk G.toRc H' ss vs ∧ AtOk env' σ (iosOf es) (ownsOf ss vs)
  | .nil, [], [], _ => ⟨trivial, trivial⟩
  | .nil, [], _ :: _, h => h.elim
  | .nil, _ :: _, _, h => h.elim
  | .cons c es, [], _, h => False.elim (by cases c <;> exact h)
  | .cons c es, s :: ss, [], h => False.elim (by cases c <;> cases s <;> exact h)
  | .cons c es, s :: ss, v :: vs, h => by
    cases hio : isIo c with
    | true =>
      obtain ⟨i, rfl⟩ := isIo_true hio
      cases s with
      | own ds =>
        obtain ⟨⟨a, rfl, hσ, hl⟩, h2⟩ := h
        obtain ⟨q1, q2⟩ := asOk_args E h2
        obtain ⟨s', b, xs, _, _, _, w1, w2, w3⟩ := list_at E hl
        rw [hσ] at w1; cases w1
        exact ⟨⟨⟨a, xs, rfl, w2, w3⟩, q1⟩, ⟨⟨ds, hl⟩, hσ, q2⟩⟩
      | nil => exact h.elim
      | val d => exact h.elim
      | io ds => exact h.elim
    | false =>
      obtain ⟨d, rfl, h1, h2⟩ := asOk_inv hio h
      obtain ⟨q1, q2⟩ := asOk_args E h2
      rw [ios_cons hio]
      exact ⟨⟨h1, q1⟩, by cases v <;> exact q2⟩
theorem argsOk_app {R : Rc} {H : Hp} {dv : List D} {ds : List V} (hd : Reps R H ds dv) : ∀ {ss : List Slot} {vs : List V}, ArgsOk R H ss vs → ArgsOk R H (ss ++ dv.map .val) (vs ++ ds)
  | [], [], _ => by
    induction dv generalizing ds with
    | nil => rw [reps_nil] at hd; subst hd; trivial
    | cons d dv ih =>
      rw [reps_cons] at hd
      obtain ⟨v, r, rfl, h1, h2⟩ := hd
      exact ⟨h1, ih h2⟩
  | [], _ :: _, h => h.elim
  | _ :: _, [], h => h.elim
  | s :: ss, v :: vs, h => ⟨h.1, argsOk_app hd h.2⟩
theorem owns_app {dv : List D} {ds : List V} : ∀ {ss : List Slot} {vs : List V}, vs.length = ss.length → ownsOf (ss ++ dv.map .val) (vs ++ ds) = ownsOf ss vs
  | [], [], _ => by
    induction dv generalizing ds with
    | nil => cases ds <;> rfl
    | cons d dv ih =>
      cases ds with
      | nil => rfl
      | cons v ds =>
        have := ih (ds := ds)
        cases v <;> exact this
  | [], _ :: _, h => by simp at h
  | _ :: _, [], h => by simp at h
  | s :: ss, v :: vs, h => by
    have ih := owns_app (dv := dv) (ds := ds) (ss := ss) (vs := vs) (by simpa using h)
    cases s <;> cases v <;> first | exact ih | exact congrArg (List.cons _) ih
theorem at_nodup {env : En} {σ : Sg} {H : Hp} (E : EnvOk G env σ H) : ∀ {is : List Nat} {as : List Addr}, AtOk env σ is as → is.Nodup → as.Nodup
  | [], [], _, _ => List.nodup_nil
  | [], _ :: _, h, _ => h.elim
  | _ :: _, [], h, _ => h.elim
  | i :: is, a :: as, h, nd => by
    obtain ⟨⟨ds, h1⟩, h2, h3⟩ := h
    obtain ⟨n1, n2⟩ := List.nodup_cons.mp nd
    refine List.nodup_cons.mpr ⟨fun m => ?_, at_nodup E h3 n2⟩
    obtain ⟨j, es, q1, q2, q3⟩ := AtOk.mem h3 m
    obtain ⟨s, b, xs, e1, e2, _, e3, _, _⟩ := list_at E h1
    obtain ⟨s', b', xs', e1', e2', _, e3', _, _⟩ := list_at E q2
    exact n1 ((E.sep i j s s' a e1 e1' e2 e2' h2 q3) ▸ q1)
theorem aft_post {env' env2 : En} {σ : Sg} {H H1 H2 : Hp} {es : CEs} {ss : List Slot} {vs ds : List V} {dv : List D} {r : Slot} {outs : List (List D)} {v : V} {env : En} (E : EnvOk G env σ H) (p : Post G env σ H env' H1) (h : AsOk G env' σ H1 es ss vs) (nd : (iosOf es).Nodup)
    (hp : putLists env' (iosOf es) outs = some env2) (a : Aft G.toRc H1 (ss ++ dv.map .val) (vs ++ ds) r outs v H2) : Post G env σ H env2 H2 ∧ SlotRep G H H2 r v := by
  obtain ⟨q1, q2⟩ := asOk_args p.ok h
  have eo : ownsOf (ss ++ dv.map .val) (vs ++ ds) = ownsOf ss vs := owns_app q1.length
  have c : Chg G.toRc H1 (ownsOf ss vs) outs H2 := ⟨by rw [← eo]; exact a.outs, fun b o e n => a.keep b o e (by rw [eo]; exact n), a.trk⟩
  refine ⟨p.trans (chg_post p.ok q2 nd c hp), ?_⟩
  cases r with
  | val d => exact a.ret
  | own ds =>
    obtain ⟨b, xs, e, hn, hl, rr⟩ := a.ret
    exact ⟨b, xs, e, p.fr.trk b hn, hl, rr⟩
  | nil => exact a.ret.elim
  | io _ => exact a.ret.elim
theorem c_call {x : Str} {p pos : Pos} {e : Expr} {es : List Expr} {cs : CEs} {j : Nat} {dv : List D} {ds : List V} (hnd : (iosOf cs).Nodup) (hds : ∀ H, Reps G.toRc H ds dv) (base : PE X (.Call (.Name x p) (e :: es) [] pos) (tCall (spO G.toRc cl j) ds E0 (tAs G cl cs))) :
    PE X (.Call (.Name x p) (e :: es) [] pos) (tE G cl (.call j cs dv)) :=
  pe_imp base fun σ H Q ⟨env, sl, env', E, ev, q⟩ => by
    rw [evalE] at ev
    obtain ⟨ss, e1, ev1, ev⟩ := bindSs_some' ev
    split at ev
    · rename_i r outs hc
      obtain ⟨e2, hp, h2⟩ := map_some' ev
      cases h2
      refine ⟨env, ss, e1, E, ev1, fun vs H1 p1 h1 => ?_⟩
      obtain ⟨q1, q2⟩ := asOk_args p1.ok h1
      refine ⟨ss ++ dv.map .val, _, outs, argsOk_app (hds H1) q1, ?_, hc, fun v H2 a => ?_⟩
      · rw [owns_app q1.length]
        exact at_nodup p1.ok q2 hnd
      · obtain ⟨w1, w2⟩ := aft_post E p1 h1 hnd hp a
        exact q v H2 w1 w2
    · cases ev
theorem c_callv {x : Str} {p pos : Pos} {e : Expr} {es : List Expr} {cs : CEs} {i : Nat} (hnd : (iosOf cs).Nodup) (base : PE X (.Call (.Name x p) (e :: es) [] pos) (tCallV i (fun f sp => ∃ j args y, f = G.fa j ∧ cl j args = some y ∧ sp = spO G.toRc cl j) (tAs G cl cs))) :
    PE X (.Call (.Name x p) (e :: es) [] pos) (tE G cl (.callv i cs)) :=
  pe_imp base fun σ H Q ⟨env, sl, env', E, ev, q⟩ => by
    rw [evalE] at ev
    split at ev
    · rename_i j hj
      obtain ⟨v, hv, rv⟩ := E.slot i _ hj
      have rv' : v = .ref (G.fa j) := rv
      subst rv'
      obtain ⟨ss, e1, ev1, ev⟩ := bindSs_some' ev
      split at ev
      · rename_i r outs hc
        obtain ⟨e2, hp, h2⟩ := map_some' ev
        cases h2
        refine ⟨_, _, hv, ⟨j, ss, _, rfl, hc, rfl⟩, env, ss, e1, E, ev1, fun vs H1 p1 h1 => ?_⟩
        obtain ⟨q1, q2⟩ := asOk_args p1.ok h1
        refine ⟨ss, _, outs, q1, at_nodup p1.ok q2 hnd, hc, fun v H2 a => ?_⟩
        obtain ⟨w1, w2⟩ := aft_post (dv := []) (ds := []) E p1 h1 hnd hp (by rw [List.map_nil, List.append_nil, List.append_nil]; exact a)
        exact q v H2 w1 w2
      · cases ev
    · cases ev
end
end Pi

-- PiIter
set_option maxHeartbeats 1000000
namespace Pi
open PySem PySem.Spec PyProof.Rows L2
structure Wk (R : Rc) (J : It) (xs : List D) (B : Hp) : Prop where
  go : ∀ i H, Kp B H → i < xs.length → J.go i H
  stop : ∀ H, Kp B H → J.stop xs.length H
  yld : ∀ i H x H', Kp B H → i < xs.length → J.yld i H x H' → Ext H H' ∧ ∃ d, xs[i]? = some d ∧ Rep R H' x d
section
variable {X : Cx} {G : Gh} {cl : Oracle} {tg : Expr}
def tI (G : Gh) (cl : Oracle) (c : CI) : TI := fun σ H R => ∃ env xs env', EnvOk G env σ H ∧ evalI cl c env = some (xs, env') ∧ ∀ J H', Post G env σ H env' H' → Wk G.toRc J xs H' → xs.length ≤ sizeLine → R J H'
theorem pi_imp {it : Expr} {w w' : TI} (h : PI X tg it w) (f : ∀ σ H R, w' σ H R → w σ H R) : PI X tg it w' := ⟨fun pins s σ H R I q => h.run pins s σ H R I (f σ H R q)⟩
theorem wk_list {K : PySem.W.Frag} {R : Rc} {a : Addr} {xs : List V} {ds : List D} {H : Hp} (h : Fz K H a xs) (r : Reps R H xs ds) : Wk R (Itl K a) ds H := by
  have hl := r.length
  refine ⟨fun i H1 k hi => ⟨xs, xs[i]'(by omega), (k.fz h).seq, by simp⟩, fun H1 k => ⟨xs, (k.fz h).seq, by omega⟩, fun i H1 x H2 k hi y => ?_⟩
  obtain ⟨rfl, y⟩ := y
  have e := y xs (k.fz h).seq
  have hd : ds[i]? = some ds[i] := List.getElem?_eq_getElem hi
  obtain ⟨v, e1, rv⟩ := r.get hd
  rw [e] at e1; cases e1
  exact ⟨Ext.refl _, _, hd, rv.keep k⟩
theorem wk_tup {K : PySem.W.Frag} {R : Rc} {a : Addr} {xs : List V} {ds : List D} {H : Hp} (h : SqT K H a xs) (r : Reps R H xs ds) : Wk R (Itt K a) ds H := by
  have hl := r.length
  refine ⟨fun i H1 k hi => ⟨xs, xs[i]'(by omega), k.sqt h, by simp⟩, fun H1 k => ⟨xs, k.sqt h, by omega⟩, fun i H1 x H2 k hi y => ?_⟩
  obtain ⟨rfl, y⟩ := y
  have e := y xs (k.sqt h)
  have hd : ds[i]? = some ds[i] := List.getElem?_eq_getElem hi
  obtain ⟨v, e1, rv⟩ := r.get hd
  rw [e] at e1; cases e1
  exact ⟨Ext.refl _, _, hd, rv.keep k⟩
theorem range_get {lo : Int} {n i : Nat} (h : i < n) : (rangeD lo n)[i]? = some (.int (lo + (i : Int))) := by
  unfold rangeD
  rw [List.getElem?_map, List.getElem?_range h]
  rfl
theorem range_len (lo : Int) (n : Nat) : (rangeD lo n).length = n := by unfold rangeD; simp
theorem wk_range {R : Rc} {lo : Int} {n : Nat} {H : Hp} : Wk R (Itr lo n) (rangeD lo n) H := by
  refine ⟨fun i H1 k hi => by rw [range_len] at hi; exact hi, fun H1 k => by rw [range_len]; exact Nat.le_refl n, fun i H1 x H2 k hi y => ?_⟩
  obtain ⟨rfl, rfl⟩ := y
  rw [range_len] at hi
  exact ⟨Ext.refl _, _, range_get hi, rep_int.mpr rfl⟩
theorem i_sq (hK : X.K = G.toRc.K) {e : Expr} {c : CE} (he : PE X e (tE G cl c)) : PI X tg e (tI G cl (.sq c)) := by
  refine ⟨fun pins s σ H R I ⟨env, xs, env', E, ev, q⟩ => ?_⟩
  rw [evalI] at ev
  obtain ⟨s1, x, e1, ev1, d1, ev⟩ := bindV_some ev
  obtain ⟨ds, ev2, h2⟩ := map_some' ev
  cases h2
  refine thn ((pe_val he).run pins s σ H (fun v H' => Post G env σ H env' H' ∧ Rep G.toRc H' v x) I ⟨env, s1, _, x, E, ev1, d1, fun v H' p r => ⟨p, r⟩⟩) fun v s1 ⟨xv, H1, I1, r1, pp, rr⟩ => ?_
  have fresh : ∀ (o : Obj), ∀ b ∈ [s1.heap.objs.size], FpOk X pins H1 b := fun o b hb => by
    have e : b = s1.heap.objs.size := by simpa using hb
    rw [e]
    exact I1.fpOk (Nat.le_refl _) (I1.hok.fresh (Nat.le_refl _))
  cases x <;> try (cases (show (none : Option (List D)) = some xs from ev2))
  · cases ev2
    obtain ⟨a, vs, ea, hq, ra⟩ := rep_tup.mp rr
    subst ea
    cases r1
    have w := wk_tup (K := X.K) (by rw [hK]; exact hq) ra
    rw [← hK] at hq
    obtain ⟨its, rv, p, hz⟩ := I1.tuple hq
    refine wpAny_pyIter_tuple (show s1.heap.IsTuple a its.toArray from p) ?_
    refine ⟨_, [s1.heap.objs.size], _, _, H1, rfl, I1.kept (t' := s1.toks) fun b o e => Heap.get?_push_of_some _ e, turn_tuple a _, ⟨_, Heap.get?_push_size _ rfl, rfl, rfl⟩, fresh default, ?_⟩
    exact q _ H1 pp w (by rw [← ra.length]; exact hz)
  · cases ev2
    obtain ⟨a, vs, ea, hq, ra⟩ := rep_ls.mp rr
    subst ea
    cases r1
    have w := wk_list (K := X.K) (by rw [hK]; exact hq) ra
    obtain ⟨its, rv, p, hz⟩ := I1.list (hq.seqX hK)
    refine wpAny_pyIter_list p.isList ?_
    refine ⟨_, [s1.heap.objs.size], _, _, H1, rfl, I1.kept (t' := s1.toks) fun b o e => Heap.get?_push_of_some _ e, turn_list a _, ⟨_, Heap.get?_push_size _ rfl, rfl, rfl⟩, fresh default, ?_⟩
    exact q _ H1 pp w (by rw [← ra.length]; exact hz)
theorem i_rg1 {a : Expr} {c : CE} {p pos : Pos} (hg : Gl X "range") (hm : X.mg "range" = none) (hs : isStar a = false) (ha : PE X a (tE G cl c)) : PI X tg (.Call (.Name "range" p) [a] [] pos) (tI G cl (.rg1 c)) :=
  pi_imp (pi_range1 hg hm (pa_cons (pe_val ha) pa_nil (star_one hs)) (star_one hs)) fun σ H R ⟨env, xs, env', E, ev, q⟩ => by
    rw [evalI] at ev
    obtain ⟨s1, x, e1, ev1, d1, ev⟩ := bindV_some ev
    cases x <;> try (cases (show (none : Option (List D × En)) = some (xs, env') from ev))
    rename_i j
    simp only at ev
    split at ev <;> cases ev
    rename_i hz
    refine ⟨env, s1, _, _, E, ev1, d1, fun v H1 p1 r1 => ?_⟩
    refine ⟨j, by rw [rep_int.mp r1], hz.1.1, hz.1.2, q _ H1 p1 wk_range ?_⟩
    rw [range_len]
    omega
theorem i_rg2 {a b : Expr} {c c' : CE} {p pos : Pos} (hg : Gl X "range") (hm : X.mg "range" = none) (hs : isStar a = false) (hs' : isStar b = false) (ha : PE X a (tE G cl c)) (hb : PE X b (tE G cl c')) : PI X tg (.Call (.Name "range" p) [a, b] [] pos) (tI G cl (.rg2 c c')) :=
  pi_imp (pi_range2 hg hm (pa_cons (pe_val ha) (pa_cons (pe_val hb) pa_nil (star_one hs')) (star_one hs)) (by rw [star_one hs, star_one hs']; rfl) (star_one hs')) fun σ H R ⟨env, xs, env', E, ev, q⟩ => by
    rw [evalI] at ev
    obtain ⟨s1, x, e1, ev1, d1, ev⟩ := bindV_some ev
    obtain ⟨s2, y, e2, ev2, d2, ev⟩ := bindV_some ev
    cases x <;> cases y <;> try (cases (show (none : Option (List D × En)) = some (xs, env') from ev))
    simp only at ev
    split at ev
    · rename_i hz
      cases ev
      refine ⟨env, s1, _, _, E, ev1, d1, fun v H1 p1 r1 => ?_⟩
      refine ⟨e1, s2, _, _, p1.ok, ev2, d2, fun w H2 p2 r2 => ?_⟩
      refine ⟨_, _, by rw [rep_int.mp r1, rep_int.mp r2], ⟨hz.1.1, hz.1.2, hz.2.1.1, hz.2.1.2⟩, q _ H2 (p1.trans p2) wk_range ?_⟩
      rw [range_len]
      omega
    · cases ev
end

section
variable {X : Cx} {G : Gh} {cl : Oracle}
theorem EnvOk.setv {env : En} {σ : Sg} {H : Hp} {i : Nat} {s : Slot} {v : V} (E : EnvOk G env σ H) (hi : i < env.length) (ho : ∀ ds, env[i]? ≠ some (.io ds)) (hs : SlotOk G H (σ.set i (some v)) i s) (hn : s.isMut = true → ∀ a, v = .ref a → ¬ MutAt env σ a) (hio : ∀ ds, s ≠ .io ds) :
    EnvOk G (env.set i s) (σ.set i (some v)) H := by
  have hiσ : i < σ.length := by rw [← E.len]; exact hi
  have old : ∀ j t, (env.set i s)[j]? = some t → (j = i ∧ t = s) ∨ (j ≠ i ∧ env[j]? = some t) := fun j t e => by
    by_cases hj : j = i
    · subst hj
      rw [List.getElem?_set_self hi] at e
      exact .inl ⟨rfl, (Option.some.inj e).symm⟩
    · rw [List.getElem?_set_ne (Ne.symm hj)] at e
      exact .inr ⟨hj, e⟩
  have σne : ∀ j, j ≠ i → (σ.set i (some v))[j]? = σ[j]? := fun j hj => List.getElem?_set_ne (Ne.symm hj)
  have σself : (σ.set i (some v))[i]? = some (some v) := List.getElem?_set_self hiσ
  refine ⟨by rw [List.length_set, List.length_set]; exact E.len, fun j t e => ?_, fun j k t u b e1 e2 m1 m2 q1 q2 => ?_, E.fr, fun p hp => ?_⟩
  · rcases old j t e with ⟨rfl, rfl⟩ | ⟨hj, e⟩
    · exact hs
    · have z := E.slot j t e
      cases t with
      | nil => trivial
      | val d =>
        obtain ⟨w, w1, w2⟩ := z
        exact ⟨w, by rw [σne j hj]; exact w1, w2⟩
      | own ds =>
        obtain ⟨b, ys, w1, w2⟩ := z
        exact ⟨b, ys, by rw [σne j hj]; exact w1, w2⟩
      | io ds =>
        obtain ⟨b, ys, w1, w2⟩ := z
        exact ⟨b, ys, by rw [σne j hj]; exact w1, w2⟩
  · rcases old j t e1 with ⟨ej, et⟩ | ⟨hj, f1⟩
    · rcases old k u e2 with ⟨ek, eu⟩ | ⟨hk, f2⟩
      · rw [ej, ek]
      · exfalso
        rw [ej, σself] at q1
        rw [σne k hk] at q2
        rw [et] at m1
        exact hn m1 b (by cases q1; rfl) ⟨k, u, f2, m2, q2⟩
    · rcases old k u e2 with ⟨ek, eu⟩ | ⟨hk, f2⟩
      · exfalso
        rw [ek, σself] at q2
        rw [σne j hj] at q1
        rw [eu] at m2
        exact hn m2 b (by cases q2; rfl) ⟨j, t, f1, m1, q1⟩
      · rw [σne j hj] at q1
        rw [σne k hk] at q2
        exact E.sep j k t u b f1 f2 m1 m2 q1 q2
  · obtain ⟨ds, e, q⟩ := E.iok p hp
    have hj : p.1 ≠ i := fun z => ho ds (by rw [← z]; exact e)
    exact ⟨ds, by rw [List.getElem?_set_ne (Ne.symm hj)]; exact e, by rw [σne _ hj]; exact q⟩
theorem setSlot_some {env env1 : En} {i : Nat} {s : Slot} (h : setSlot env i s = some env1) : i < env.length ∧ (∀ ds, env[i]? ≠ some (.io ds)) ∧ env1 = env.set i s := by
  unfold setSlot at h
  split at h
  · cases h
  · cases h
  · rename_i t h2 e
    cases h
    exact ⟨(List.getElem?_eq_some_iff.mp e).1, fun ds z => h2 ds (by rw [e] at z; exact Option.some.inj z), rfl⟩
theorem set_val {env env1 : En} {σ : Sg} {H : Hp} {i : Nat} {d : D} {v : V} (E : EnvOk G env σ H) (h : setSlot env i (.val d) = some env1) (r : Rep G.toRc H v d) : EnvOk G env1 (σ.set i (some v)) H := by
  obtain ⟨h1, h2, rfl⟩ := setSlot_some h
  exact E.setv h1 h2 ⟨v, List.getElem?_set_self (by rw [← E.len]; exact h1), r⟩ (fun z => by cases z) (fun ds z => by cases z)
theorem set_own {env env1 : En} {σ : Sg} {H : Hp} {i : Nat} {ds : List D} {a : Addr} {xs : List V} (E : EnvOk G env σ H) (h : setSlot env i (.own ds) = some env1) (ha : H a = some (.lst xs)) (r : Reps G.toRc H xs ds) (h0 : G.H0 a = none) (hn : ¬ MutAt env σ a) : EnvOk G env1 (σ.set i (some (.ref a))) H := by
  obtain ⟨h1, h2, rfl⟩ := setSlot_some h
  exact E.setv h1 h2 ⟨a, xs, List.getElem?_set_self (by rw [← E.len]; exact h1), ha, r, h0⟩ (fun _ b e => by cases e; exact hn) (fun ds z => by cases z)

def Tg.vars : Tg → List Nat
  | .nm i => [i]
  | .tp is => is
def Off (vs : List Nat) (σ σ' : Sg) : Prop := σ'.length = σ.length ∧ ∀ j, j ∉ vs → σ'[j]? = σ[j]?
def tG (G : Gh) (t : Tg) : TG := fun v σ H Q => ∃ env d env', EnvOk G env σ H ∧ Rep G.toRc H v d ∧ bindTg t d env = some env' ∧ ∀ σ', EnvOk G env' σ' H → Off t.vars σ σ' → Q σ' H
def tGs (G : Gh) (is : List Nat) : TGs := fun vs σ H Q => ∃ env ds env', EnvOk G env σ H ∧ Reps G.toRc H vs ds ∧ is.length = ds.length ∧ setSlots env is (ds.map .val) = some env' ∧ ∀ σ', EnvOk G env' σ' H → Off is σ σ' → Q σ' H
theorem setSlots_old : ∀ {is : List Nat} {ds : List D} {env env' : En}, setSlots env is (ds.map .val) = some env' → ∀ (j : Nat) (s : Slot), env'[j]? = some s → s.isMut = true → env[j]? = some s ∧ j ∉ is
  | [], [], env, env', h, j, s, e, m => by cases h; exact ⟨e, by simp⟩
  | [], _ :: _, _, _, h, _, _, _, _ => by cases h
  | _ :: _, [], _, _, h, _, _, _, _ => by cases h
  | i :: is, d :: ds, env, env', h, j, s, e, m => by
    rw [List.map_cons] at h
    unfold setSlots at h
    split at h
    · rename_i env1 h1
      obtain ⟨q1, q2⟩ := setSlots_old h j s e m
      obtain ⟨w1, w2, rfl⟩ := setSlot_some h1
      by_cases hj : j = i
      · subst hj
        rw [List.getElem?_set_self w1] at q1
        cases q1
        cases m
      · rw [List.getElem?_set_ne (Ne.symm hj)] at q1
        exact ⟨q1, by simp [hj, q2]⟩
    · cases h
theorem bindTg_old {t : Tg} {d : D} {env env' : En} (h : bindTg t d env = some env') (j : Nat) (s : Slot) (e : env'[j]? = some s) (m : s.isMut = true) : env[j]? = some s ∧ j ∉ t.vars := by
  cases t with
  | nm i =>
    have h' : setSlots env [i] ([d].map .val) = some env' := by
      have h2 : setSlot env i (.val d) = some env' := h
      show (match setSlot env i (.val d) with | some e => setSlots e [] [] | none => none) = _
      rw [h2]
      rfl
    exact setSlots_old h' j s e m
  | tp is =>
    cases d <;> try (cases (show (none : Option En) = some env' from h))
    · simp only [bindTg] at h
      split at h
      · exact setSlots_old h j s e m
      · cases h
    · simp only [bindTg] at h
      split at h
      · exact setSlots_old h j s e m
      · cases h
theorem pg_imp {e : Expr} {t t' : TG} (h : PG X e t) (f : ∀ v σ H Q, t' v σ H Q → t v σ H Q) : PG X e t' := ⟨fun pins s σ H v u Q I r q => h.run pins s σ H v u Q I r (f v σ H Q q)⟩
theorem pgs_imp {e : List Expr} {t t' : TGs} (h : PGs X e t) (f : ∀ v σ H Q, t' v σ H Q → t v σ H Q) : PGs X e t' := ⟨fun pins s σ H v u Q I r q => h.run pins s σ H v u Q I r (f v σ H Q q)⟩
theorem off_set {σ : Sg} {i : Nat} {o : Option V} {vs : List Nat} (h : i ∈ vs) : Off vs σ (σ.set i o) := ⟨List.length_set, fun j hj => List.getElem?_set_ne (fun z => hj (by rw [← z]; exact h))⟩
theorem Off.trans {vs : List Nat} {σ σ1 σ2 : Sg} (a : Off vs σ σ1) (b : Off vs σ1 σ2) : Off vs σ σ2 := ⟨b.1.trans a.1, fun j hj => (b.2 j hj).trans (a.2 j hj)⟩
theorem Off.mono {vs ws : List Nat} {σ σ1 : Sg} (a : Off vs σ σ1) (h : ∀ j ∈ vs, j ∈ ws) : Off ws σ σ1 := ⟨a.1, fun j hj => a.2 j fun z => hj (h j z)⟩
theorem g_nm {x : Str} {i : Nat} {pos : Pos} (h : PG X (.Name x pos) (gName i)) : PG X (.Name x pos) (tG G (.nm i)) :=
  pg_imp h fun v σ H Q ⟨env, d, env', E, r, e, q⟩ => q _ (set_val E e r) (off_set (by simp [Tg.vars]))
theorem gs_nil : PGs X [] (tGs G []) := pgs_imp pgs_nil fun vs σ H Q ⟨env, ds, env', E, r, l, e, q⟩ => by
  cases ds with
  | nil =>
    rw [reps_nil] at r
    cases e
    exact ⟨r, q σ E ⟨rfl, fun _ _ => rfl⟩⟩
  | cons _ _ => simp at l
theorem gs_cons {x : Str} {i : Nat} {is : List Nat} {pos : Pos} {es : List Expr} (h : PG X (.Name x pos) (gName i)) (h2 : PGs X es (tGs G is)) : PGs X (.Name x pos :: es) (tGs G (i :: is)) :=
  pgs_imp (pgs_cons h h2) fun vs σ H Q ⟨env, ds, env', E, r, l, e, q⟩ => by
    cases ds with
    | nil => simp at l
    | cons d ds =>
      rw [reps_cons] at r
      obtain ⟨v, vs', rfl, r1, r2⟩ := r
      rw [List.map_cons] at e
      unfold setSlots at e
      split at e
      · rename_i env1 e1
        refine ⟨v, vs', rfl, env1, ds, env', set_val E e1 r1, r2, by simpa using l, e, fun σ' E' off => ?_⟩
        exact q σ' E' ((off_set List.mem_cons_self).trans (off.mono fun j hj => List.mem_cons_of_mem _ hj))
      · cases e
theorem g_tp (hK : X.K = G.toRc.K) {es : List Expr} {is : List Nat} {k : Nat} {pos : Pos} (hc : X.calm = true) (h : PGs X es (tGs G is)) (hn : (assignEach es X.env).length = is.length) (hst : (assignEach es X.env).findIdx? (·.1) = none) : PG X (.Tuple es k pos) (tG G (.tp is)) := by
  refine ⟨fun pins s σ H v u Q I r ⟨env, d, env', E, rd, e, q⟩ => ?_⟩
  cases d <;> try (cases (show (none : Option En) = some env' from e))
  · rename_i ds
    simp only [bindTg] at e
    split at e
    · rename_i hl
      obtain ⟨a, xs, ea, hq, ra⟩ := rep_tup.mp rd
      rw [← hK] at hq
      exact (pg_tup (t := tGs G is) (n := is.length) hc h hn hst).run pins s σ H v u Q I r ⟨a, xs, ea, hq, by rw [ra.length, hl], env, ds, env', E, ra, hl, e, q⟩
    · cases e
  · rename_i ds
    simp only [bindTg] at e
    split at e
    · rename_i hl
      obtain ⟨a, xs, ea, hq, ra⟩ := rep_ls.mp rd
      exact (pg_unl (t := tGs G is) (n := is.length) hc h hn hst).run pins s σ H v u Q I r ⟨a, xs, ea, hq.seqX hK, by rw [ra.length, hl], env, ds, env', E, ra, hl, e, q⟩
    · cases e
end
end Pi

-- PiComp
set_option maxHeartbeats 1000000
namespace Pi
open PySem PySem.Spec PyProof.Rows L2
theorem wipe_none {σ : Sg} {j : Nat} : ∀ {vs : List Nat}, j ∈ vs → j < σ.length → (wipe σ vs)[j]? = some none
  | v :: vs, h, hl => by
    unfold wipe
    by_cases hj : v = j
    · subst hj
      exact List.getElem?_set_self (by rw [wipe_length]; exact hl)
    · rw [List.getElem?_set_ne hj]
      rcases List.mem_cons.mp h with e | h
      · exact absurd e.symm hj
      · exact wipe_none h hl
theorem wipe_off {σ σ2 : Sg} {vs ws : List Nat} (h : Off ws (wipe σ vs) σ2) (hs : ∀ j ∈ ws, j ∈ vs) : wipe σ2 vs = wipe σ vs := by
  apply List.ext_getElem?
  intro j
  by_cases hj : j ∈ vs
  · by_cases hl : j < σ.length
    · rw [wipe_none hj hl, wipe_none hj (by rw [h.1, wipe_length]; exact hl)]
    · rw [List.getElem?_eq_none (by rw [wipe_length, h.1, wipe_length]; omega), List.getElem?_eq_none (by rw [wipe_length]; omega)]
  · rw [wipe_out hj, h.2 j fun z => hj (hs j z)]
theorem setSlot_nil {env env1 : En} {i : Nat} (h : setSlot env i .nil = some env1) : i < env.length ∧ (∀ ds, env[i]? ≠ some (.io ds)) ∧ env1 = env.set i .nil := setSlot_some h
theorem wipeEn_at : ∀ {vs : List Nat} {env env1 : En}, wipeEn env vs = some env1 → env1.length = env.length ∧ (∀ j, j ∉ vs → env1[j]? = env[j]?) ∧ (∀ j, j ∈ vs → env1[j]? = some .nil ∧ ∀ ds, env[j]? ≠ some (.io ds))
  | [], env, env1, h => by cases h; exact ⟨rfl, fun _ _ => rfl, fun j hj => by simp at hj⟩
  | v :: vs, env, env1, h => by
    unfold wipeEn at h
    split at h
    · rename_i e2 h2
      obtain ⟨l, q1, q2⟩ := wipeEn_at h2
      obtain ⟨w1, w2, rfl⟩ := setSlot_nil h
      refine ⟨by rw [List.length_set, l], fun j hj => ?_, fun j hj => ?_⟩
      · rw [List.mem_cons, not_or] at hj
        rw [List.getElem?_set_ne (Ne.symm hj.1)]
        exact q1 j hj.2
      · by_cases hv : j = v
        · subst hv
          refine ⟨List.getElem?_set_self w1, fun ds => ?_⟩
          by_cases hm : j ∈ vs
          · exact (q2 j hm).2 ds
          · rw [← q1 j hm]
            exact w2 ds
        · rcases List.mem_cons.mp hj with e | hj
          · exact absurd e hv
          · rw [List.getElem?_set_ne (Ne.symm hv)]
            exact q2 j hj
    · cases h
section
variable {X : Cx} {G : Gh} {cl : Oracle}
theorem wipe_ok {env env1 : En} {σ : Sg} {H : Hp} {vs : List Nat} (E : EnvOk G env σ H) (h : wipeEn env vs = some env1) : EnvOk G env1 (wipe σ vs) H ∧ (∀ (i : Nat) (s : Slot), env1[i]? = some s → s.isMut = true → env[i]? = some s ∧ i ∉ vs) := by
  obtain ⟨l, q1, q2⟩ := wipeEn_at h
  have old : ∀ (i : Nat) (s : Slot), env1[i]? = some s → (env[i]? = some s ∧ i ∉ vs) ∨ s = .nil := fun i s e => by
    by_cases hi : i ∈ vs
    · rw [(q2 i hi).1] at e
      exact .inr (Option.some.inj e).symm
    · rw [q1 i hi] at e
      exact .inl ⟨e, hi⟩
  have oldm : ∀ (i : Nat) (s : Slot), env1[i]? = some s → s.isMut = true → env[i]? = some s ∧ i ∉ vs := fun i s e m => by
    rcases old i s e with z | z
    · exact z
    · subst z; cases m
  refine ⟨⟨by rw [l, wipe_length]; exact E.len, fun i s e => ?_, fun i j s t a e1 e2 m1 m2 q3 q4 => ?_, E.fr, fun p hp => ?_⟩, oldm⟩
  · rcases old i s e with ⟨z, hi⟩ | z
    · have w := E.slot i s z
      cases s with
      | nil => trivial
      | val d =>
        obtain ⟨v, w1, w2⟩ := w
        exact ⟨v, by rw [wipe_out hi]; exact w1, w2⟩
      | own ds =>
        obtain ⟨b, ys, w1, w2⟩ := w
        exact ⟨b, ys, by rw [wipe_out hi]; exact w1, w2⟩
      | io ds =>
        obtain ⟨b, ys, w1, w2⟩ := w
        exact ⟨b, ys, by rw [wipe_out hi]; exact w1, w2⟩
    · subst z; trivial
  · obtain ⟨f1, g1⟩ := oldm i s e1 m1
    obtain ⟨f2, g2⟩ := oldm j t e2 m2
    rw [wipe_out g1] at q3
    rw [wipe_out g2] at q4
    exact E.sep i j s t a f1 f2 m1 m2 q3 q4
  · obtain ⟨ds, e, q⟩ := E.iok p hp
    have hi : p.1 ∉ vs := fun z => (q2 _ z).2 ds e
    exact ⟨ds, by rw [q1 _ hi]; exact e, by rw [wipe_out hi]; exact q⟩
theorem restore_at {old env : En} : ∀ {vs : List Nat}, old.length = env.length → (∀ v ∈ vs, v < env.length) → (restore old env vs).length = env.length ∧ (∀ j, j ∉ vs → (restore old env vs)[j]? = env[j]?) ∧ ∀ j, j ∈ vs → (restore old env vs)[j]? = old[j]?
  | [], _, _ => ⟨rfl, fun _ _ => rfl, fun j hj => by simp at hj⟩
  | v :: vs, hl, hv => by
    obtain ⟨l, q1, q2⟩ := restore_at (vs := vs) hl fun w hw => hv w (List.mem_cons_of_mem _ hw)
    have hvl : v < env.length := hv v List.mem_cons_self
    have ev : old[v]? = some old[v] := List.getElem?_eq_getElem (by omega)
    unfold restore
    rw [ev]
    refine ⟨by rw [List.length_set, l], fun j hj => ?_, fun j hj => ?_⟩
    · rw [List.mem_cons, not_or] at hj
      rw [List.getElem?_set_ne (Ne.symm hj.1)]
      exact q1 j hj.2
    · by_cases hjv : j = v
      · subst hjv
        rw [List.getElem?_set_self (by rw [l]; exact hvl), ev]
      · rw [List.getElem?_set_ne (Ne.symm hjv)]
        rcases List.mem_cons.mp hj with e | hj
        · exact absurd e hjv
        · exact q2 j hj
theorem restore_ok {e1 e2 en : En} {σ : Sg} {H1 H' : Hp} {vs : List Nat} (E : EnvOk G e1 σ H1) (hw : wipeEn e1 vs = some e2) (p : Post G e2 (wipe σ vs) H1 en H') : Post G e1 σ H1 (restore e1 en vs) H' := by
  obtain ⟨l, q1, q2⟩ := wipeEn_at hw
  obtain ⟨E2, oldm⟩ := wipe_ok E hw
  have len2 : en.length = e1.length := by
    rw [p.ok.len, wipe_length]
    exact E.len.symm
  have hv : ∀ v ∈ vs, v < en.length := fun v h => by
    have := (q2 v h).1
    rw [len2, ← l]
    exact (List.getElem?_eq_some_iff.mp this).1
  obtain ⟨rl, r1, r2⟩ := restore_at (old := e1) (env := en) len2.symm hv
  have kp : Kp H1 H' := p.fr.kp E2
  -- a list of a slot that was forgotten is kept
  have kept : ∀ (j : Nat) (s : Slot) (a : Addr) (o : HO), j ∈ vs → e1[j]? = some s → s.isMut = true → σ[j]? = some (some (V.ref a)) → H1 a = some o → H' a = some o := fun j s a o hj e m q h => p.fr.keep a o h fun z => by
    obtain ⟨k, t, f1, f2, f3⟩ := z
    obtain ⟨g1, g2⟩ := oldm k t f1 f2
    rw [wipe_out g2] at f3
    exact g2 ((E.sep k j t s a g1 e f2 m f3 q) ▸ hj)
  have back : ∀ (j : Nat) (s : Slot), (restore e1 en vs)[j]? = some s → s.isMut = true → ∃ s0, e1[j]? = some s0 ∧ s0.isMut = true := fun j s e m => by
    by_cases hj : j ∈ vs
    · rw [r2 j hj] at e
      exact ⟨s, e, m⟩
    · rw [r1 j hj] at e
      obtain ⟨s0, f1, f2⟩ := p.sub j s e m
      exact ⟨s0, (oldm j s0 f1 f2).1, f2⟩
  refine ⟨⟨by rw [rl, len2]; exact E.len, fun j s e => ?_, fun i j s t a e3 e4 m1 m2 q3 q4 => ?_, fun a o h n => ?_, fun pp hp => ?_⟩, ⟨fun a o h n => p.fr.keep a o h fun z => n ?_, p.fr.trk⟩, back⟩
  · by_cases hj : j ∈ vs
    · rw [r2 j hj] at e
      have w := E.slot j s e
      cases s with
      | nil => trivial
      | val d =>
        obtain ⟨v, w1, w2⟩ := w
        exact ⟨v, w1, w2.keep kp⟩
      | own ds =>
        obtain ⟨b, ys, w1, w2, w3, w4⟩ := w
        exact ⟨b, ys, w1, kept j _ b _ hj e rfl w1 w2, w3.keep kp, w4⟩
      | io ds =>
        obtain ⟨b, ys, w1, w2, w3, w4⟩ := w
        exact ⟨b, ys, w1, kept j _ b _ hj e rfl w1 w2, w3.keep kp, w4⟩
    · rw [r1 j hj] at e
      have w := p.ok.slot j s e
      cases s with
      | nil => trivial
      | val d =>
        obtain ⟨v, w1, w2⟩ := w
        rw [wipe_out hj] at w1
        exact ⟨v, w1, w2⟩
      | own ds =>
        obtain ⟨b, ys, w1, w2⟩ := w
        rw [wipe_out hj] at w1
        exact ⟨b, ys, w1, w2⟩
      | io ds =>
        obtain ⟨b, ys, w1, w2⟩ := w
        rw [wipe_out hj] at w1
        exact ⟨b, ys, w1, w2⟩
  · obtain ⟨s0, f1, g1⟩ := back i s e3 m1
    obtain ⟨t0, f2, g2⟩ := back j t e4 m2
    exact E.sep i j s0 t0 a f1 f2 g1 g2 q3 q4
  · exact p.ok.fr a o h n
  · obtain ⟨ds, e, q⟩ := E.iok pp hp
    have hj : pp.1 ∉ vs := fun z => (q2 _ z).2 ds e
    obtain ⟨ds', e', _⟩ := p.ok.iok pp hp
    exact ⟨ds', by rw [r1 _ hj]; exact e', q⟩
  · obtain ⟨k, t, f1, f2, f3⟩ := z
    obtain ⟨g1, g2⟩ := oldm k t f1 f2
    rw [wipe_out g2] at f3
    exact ⟨k, t, g1, f2, f3⟩
def lcBody (cl : Oracle) (elt : CE) (t : Tg) (cond : CE) (vs : List Nat) (x : D) (e : En) : Option (Option D × En) :=
  match bindTg t x e with
  | some e3 => bindB (evalT cl cond e3) fun b e4 => if b then bindV (evalE cl elt e4) fun d e5 => (wipeEn e5 vs).map fun e6 => (some d, e6) else (wipeEn e4 vs).map fun e6 => (none, e6)
  | none => none
theorem evalE_lc (elt : CE) (t : Tg) (it : CI) (cond : CE) (vs : List Nat) (env : En) : evalE cl (.lc elt t it cond vs) env = bindDs (evalI cl it env) fun xs e1 => match wipeEn e1 vs with
    | some e2 => (lcLoop (lcBody cl elt t cond vs) xs e2 []).map fun p => (.own p.1, restore e1 p.2 vs)
    | none => none := by
  rw [evalE]
  rfl
theorem lc_reads {elt : CE} {t : Tg} {it : CI} {cond : CE} {vs : List Nat} (hv : ∀ j ∈ t.vars, j ∈ vs) {σ : Sg} {H : Hp} {Q : VK} (h : tE G cl (.lc elt t it cond vs) σ H Q) : tLc (tI G cl it) (tG G t) (tT G cl cond) (tV G cl elt) vs σ H Q := by
  obtain ⟨env, sl, env', E, ev, q⟩ := h
  rw [evalE_lc] at ev
  obtain ⟨xs, e1, ev1, ev⟩ := bindDs_some' ev
  split at ev
  · rename_i e2 hw
    obtain ⟨fin, ev2, h2⟩ := map_some' ev
    cases h2
    refine ⟨env, xs, e1, E, ev1, fun J H1 p1 wk hlen Dl hD => ?_⟩
    obtain ⟨E2, oldm⟩ := wipe_ok p1.ok hw
    have h0 : G.H0 Dl = none := p1.ok.fresh hD
    have nD : ∀ {en : En} {τ : Sg}, (∀ a, MutAt en τ a → MutAt e2 (wipe σ vs) a) → ¬ MutAt en τ Dl := fun hsub m => by
      obtain ⟨ys, z⟩ := (hsub _ m).lst E2
      rw [hD] at z; cases z
    refine ⟨fun i m H' => ∃ en acc accv, Post G e2 (wipe σ vs) H1 en H' ∧ H' Dl = some (.lst accv) ∧ Reps G.toRc H' accv acc ∧ i ≤ xs.length ∧ acc.length ≤ i ∧ m = xs.length - i ∧ lcLoop (lcBody cl elt t cond vs) (xs.drop i) en acc = some fin,
      ⟨xs.length, e2, [], [], (Post.refl E2).ext (Ext.new hD), upd_same, by rw [reps_nil], Nat.zero_le _, Nat.zero_le _, rfl, by simpa using ev2⟩, ?_⟩
    rintro i m H' ⟨en, acc, accv, P, hl, hr, hi, ha, hm, hev⟩
    have kp : Kp H1 H' := P.fr.kp E2
    by_cases hlt : i < xs.length
    · right
      refine ⟨wk.go i H' kp hlt, _, fun H'' h => ⟨m - 1, by omega, h⟩, fun x H2 hy => ?_⟩
      obtain ⟨ext, d, hd, rd⟩ := wk.yld i H' x H2 kp hlt hy
      have hdrop : xs.drop i = d :: xs.drop (i + 1) := by
        have : xs[i] = d := by
          rw [List.getElem?_eq_getElem hlt] at hd
          exact Option.some.inj hd
        rw [← this]
        exact List.drop_eq_getElem_cons hlt
      rw [hdrop] at hev
      unfold lcLoop at hev
      -- what the turn gives
      cases hb : lcBody cl elt t cond vs d en with
      | none => rw [hb] at hev; cases hev
      | some res =>
        rw [hb] at hev
        have hb' := hb
        unfold lcBody at hb'
        split at hb'
        · rename_i e3 hbind
          obtain ⟨b, e4, evT, hb'⟩ := bindB_some' hb'
          refine ⟨en, d, e3, P.ok.ext ext, rd, hbind, fun σ2 E3 off => ⟨wipe_off off hv, ?_⟩⟩
          have sub3 : ∀ a, MutAt e3 σ2 a → MutAt en (wipe σ vs) a := fun a ⟨k, s, f1, f2, f3⟩ => by
            obtain ⟨g1, g2⟩ := bindTg_old hbind k s f1 f2
            rw [off.2 k g2] at f3
            exact ⟨k, s, g1, f2, f3⟩
          have hl2 : H2 Dl = some (.lst accv) := ext _ _ hl
          have hσ2 : wipe σ2 vs = wipe σ vs := wipe_off off hv
          refine ⟨e3, b, e4, E3, evT, fun H3 p3 => ?_⟩
          have hl3 : H3 Dl = some (.lst accv) := p3.fr.keep _ _ hl2 (nD fun a z => P.mut (sub3 a z))
          have kp3 : Kp H' H3 := ext.kp.trans (p3.fr.kp E3)
          -- the heap relation up to here
          have fr3 : ∀ a o, H1 a = some o → ¬ MutAt e2 (wipe σ vs) a → H3 a = some o := fun a o h n => p3.fr.keep a o (ext a o (P.fr.keep a o h n)) fun z => n (P.mut (sub3 a z))
          have trk3 : ∀ a, H3 a = none → H1 a = none := fun a h => P.fr.trk a (ext.none (p3.fr.trk a h))
          have idx3 : ∀ (k : Nat) (s : Slot), e4[k]? = some s → s.isMut = true → ∃ s0, e2[k]? = some s0 ∧ s0.isMut = true := fun k s f1 f2 => by
            obtain ⟨s1, g1, g2⟩ := p3.sub k s f1 f2
            exact P.sub k s1 (bindTg_old hbind k s1 g1 g2).1 g2
          cases b with
          | true =>
            simp only [if_true] at hb' ⊢
            obtain ⟨s5, d5, e5, ev5, hd5, hb'⟩ := bindV_some hb'
            obtain ⟨e6, hw6, h6⟩ := map_some' hb'
            cases h6
            refine ⟨e4, s5, e5, d5, p3.ok, ev5, hd5, fun y H4 p4 ry => ?_⟩
            have hl4 : H4 Dl = some (.lst accv) := p4.fr.keep _ _ hl3 (nD fun a z => P.mut (sub3 a (p3.mut z)))
            have kp4 : Kp H' H4 := kp3.trans (p4.fr.kp p3.ok)
            obtain ⟨E6, old6⟩ := wipe_ok p4.ok hw6
            rw [hσ2] at E6
            have idx6 : ∀ (k : Nat) (s : Slot), e6[k]? = some s → s.isMut = true → ∃ s0, e2[k]? = some s0 ∧ s0.isMut = true := fun k s f1 f2 => by
              obtain ⟨g1, _⟩ := old6 k s f1 f2
              obtain ⟨s1, g2, g3⟩ := p4.sub k s g1 f2
              exact idx3 k s1 g2 g3
            have nD6 : ¬ MutAt e6 (wipe σ vs) Dl := nD fun a ⟨k, s, f1, f2, f3⟩ => by
              obtain ⟨s0, g1, g2⟩ := idx6 k s f1 f2
              exact ⟨k, s0, g1, g2, f3⟩
            have hlen2 := hr.length
            refine ⟨accv, hl4, by omega, e6, acc ++ [d5], accv ++ [y], ⟨E6.other hl4 nD6 h0, ⟨fun a o h n => ?_, fun a h => ?_⟩, idx6⟩, upd_same, ?_, by omega, by simp; omega, by omega, hev⟩
            · rw [upd_ne (fun z => by rw [z, hD] at h; cases h)]
              exact p4.fr.keep a o (fr3 a o h n) fun z => n (P.mut (sub3 a (p3.mut z)))
            · exact trk3 a (p4.fr.trk a (upd_trk h))
            · have k5 : Kp H4 (upd H4 Dl (.lst (accv ++ [y]))) := Kp.put hl4
              exact ((hr.keep kp4).keep k5).append (reps_cons.mpr ⟨y, [], rfl, ry.keep k5, by rw [reps_nil]⟩)
          | false =>
            simp only [Bool.false_eq_true, if_false] at hb' ⊢
            obtain ⟨e6, hw6, h6⟩ := map_some' hb'
            cases h6
            obtain ⟨E6, old6⟩ := wipe_ok p3.ok hw6
            rw [hσ2] at E6
            have idx6 : ∀ (k : Nat) (s : Slot), e6[k]? = some s → s.isMut = true → ∃ s0, e2[k]? = some s0 ∧ s0.isMut = true := fun k s f1 f2 => idx3 k s (old6 k s f1 f2).1 f2
            exact ⟨e6, acc, accv, ⟨E6, ⟨fr3, trk3⟩, idx6⟩, hl3, hr.keep kp3, by omega, by omega, by omega, hev⟩
        · cases hb'
    · left
      have hi' : i = xs.length := by omega
      subst hi'
      refine ⟨wk.stop H' kp, ?_⟩
      rw [List.drop_length] at hev
      unfold lcLoop at hev
      cases hev
      refine q (.ref Dl) H' (p1.trans (restore_ok p1.ok hw P)) ⟨Dl, accv, rfl, p1.fr.trk _ hD, hl, hr⟩
  · cases ev
theorem ts_nil {b : Expr} : PTs X [] (tT G cl (.cst (.bl true))) := ⟨fun pins s σ H Q I ⟨env, b, env', E, ev, q⟩ => pts_nil.run pins s σ H Q I (by
  rw [evalT] at ev
  cases ev
  exact q H (Post.refl E))⟩
end
end Pi

-- PiStmt
set_option maxHeartbeats 1000000
namespace Pi
open PySem PySem.Spec PyProof.Rows L2
def FlOk (G : Gh) (H : Hp) (D : Ends) : Flo → Prop
  | .nx e => ∀ σ' H', EnvOk G e σ' H' → Kp H H' → D.nx σ' H'
  | .rt r e => ∀ v σ' H', EnvOk G e σ' H' → RetOk G.toRc G.H0 H' r v → D.rt v H'
  | .bk e => ∀ σ' H', EnvOk G e σ' H' → Kp H H' → D.bk σ' H'
  | .ct e => ∀ σ' H', EnvOk G e σ' H' → Kp H H' → D.ct σ' H'
theorem FlOk.mono {G : Gh} {H H1 : Hp} {D : Ends} {f : Flo} (h : FlOk G H D f) (k : Kp H H1) : FlOk G H1 D f := by
  cases f with
  | nx e => exact fun σ' H' E k' => h σ' H' E (k.trans k')
  | rt r e => exact fun v σ' H' E r => h v σ' H' E r
  | bk e => exact fun σ' H' E k' => h σ' H' E (k.trans k')
  | ct e => exact fun σ' H' E k' => h σ' H' E (k.trans k')
section
variable {X : Cx} {G : Gh} {cl : Oracle} {L : Nat}
def tS (G : Gh) (cl : Oracle) (L : Nat) (c : CS) : TS := fun D σ H => ∃ env f, EnvOk G env σ H ∧ evalS cl L c env = some f ∧ FlOk G H D f
def tSs (G : Gh) (cl : Oracle) (L : Nat) (c : CSs) : TS := fun D σ H => ∃ env f, EnvOk G env σ H ∧ evalSs cl L c env = some f ∧ FlOk G H D f
theorem ps_imp {st : Stmt} {t t' : TS} (h : PS X st t) (f : ∀ D σ H, t' D σ H → t D σ H) : PS X st t' := ⟨fun pins s σ H D I q => h.run pins s σ H D I (f D σ H q)⟩
theorem pss_imp {st : List Stmt} {t t' : TS} (h : PSs X st t) (f : ∀ D σ H, t' D σ H → t D σ H) : PSs X st t' := ⟨fun pins s σ H D I q => h.run pins s σ H D I (f D σ H q)⟩
theorem ss_nil : PSs X [] (tSs G cl L .nil) := pss_imp pss_nil fun D σ H ⟨env, f, E, ev, q⟩ => by
  rw [evalSs] at ev
  cases ev
  exact q σ H E (Kp.refl H)
theorem ss_cons {st : Stmt} {rest : List Stmt} {c : CS} {cs : CSs} (h1 : PS X st (tS G cl L c)) (h2 : PSs X rest (tSs G cl L cs)) : PSs X (st :: rest) (tSs G cl L (.cons c cs)) :=
  pss_imp (pss_cons h1 h2) fun D σ H ⟨env, f, E, ev, q⟩ => by
    rw [evalSs] at ev
    cases h : evalS cl L c env with
    | none => rw [h] at ev; cases ev
    | some g =>
      rw [h] at ev
      cases g with
      | nx e1 => exact ⟨env, .nx e1, E, h, fun σ' H' E' k => ⟨e1, f, E', ev, q.mono k⟩⟩
      | rt r e1 => cases ev; exact ⟨env, _, E, h, q⟩
      | bk e1 => cases ev; exact ⟨env, _, E, h, q⟩
      | ct e1 => cases ev; exact ⟨env, _, E, h, q⟩
theorem s_pass {pos : Pos} : PS X (.Pass pos) (tS G cl L .pass) := ps_imp ps_pass fun D σ H ⟨env, f, E, ev, q⟩ => by
  rw [evalS] at ev
  cases ev
  exact q σ H E (Kp.refl H)
theorem s_brk {pos : Pos} : PS X (.Break pos) (tS G cl L .brk) := ps_imp ps_break fun D σ H ⟨env, f, E, ev, q⟩ => by
  rw [evalS] at ev
  cases ev
  exact q σ H E (Kp.refl H)
theorem s_cnt {pos : Pos} : PS X (.Continue pos) (tS G cl L .cnt) := ps_imp ps_continue fun D σ H ⟨env, f, E, ev, q⟩ => by
  rw [evalS] at ev
  cases ev
  exact q σ H E (Kp.refl H)
theorem s_raise {st : Stmt} : PS X st (tS G cl L .raise) := ps_imp ps_never fun D σ H ⟨env, f, E, ev, q⟩ => by
  rw [evalS] at ev
  cases ev
theorem ret_slot {env env1 : En} {σ : Sg} {H H' : Hp} {s : Slot} {v : V} (E : EnvOk G env σ H) (r : SlotRep G H H' s v) : RetOk G.toRc G.H0 H' s v := by
  cases s with
  | val d => exact r
  | own ds =>
    obtain ⟨a, xs, e, hn, hl, rr⟩ := r
    exact ⟨a, xs, e, E.fresh hn, hl, rr⟩
  | nil => exact r
  | io _ => exact r
theorem s_ret {e : Expr} {c : CE} {pos : Pos} (he : PE X e (tE G cl c)) : PS X (.Return (some e) pos) (tS G cl L (.ret c)) :=
  ps_imp (ps_ret he) fun D σ H ⟨env, f, E, ev, q⟩ => by
    rw [evalS] at ev
    split at ev
    · rename_i s e1 h1
      cases ev
      exact ⟨env, s, e1, E, h1, fun v H' p r => q v σ H' p.ok (ret_slot (env1 := env) E r)⟩
    · cases ev
theorem drop_slot {env : En} {σ : Sg} {H : Hp} {i : Nat} {ds : List D} (E : EnvOk G env σ H) (h : env[i]? = some (.own ds)) : EnvOk G (env.set i .nil) σ H := by
  have hi := (List.getElem?_eq_some_iff.mp h).1
  have old : ∀ (j : Nat) (s : Slot), (env.set i .nil)[j]? = some s → s = .nil ∨ env[j]? = some s := fun j s e => by
    by_cases hj : j = i
    · subst hj
      rw [List.getElem?_set_self hi] at e
      exact .inl (Option.some.inj e).symm
    · rw [List.getElem?_set_ne (Ne.symm hj)] at e
      exact .inr e
  refine ⟨by rw [List.length_set]; exact E.len, fun j s e => ?_, fun j k s t a e1 e2 m1 m2 => ?_, E.fr, fun p hp => ?_⟩
  · rcases old j s e with z | z
    · subst z; trivial
    · exact E.slot j s z
  · rcases old j s e1 with z | z
    · subst z; cases m1
    · rcases old k t e2 with w | w
      · subst w; cases m2
      · exact E.sep j k s t a z w m1 m2
  · obtain ⟨es, e, q⟩ := E.iok p hp
    have hj : p.1 ≠ i := fun z => by rw [z, h] at e; cases e
    exact ⟨es, by rw [List.getElem?_set_ne (Ne.symm hj)]; exact e, q⟩
theorem s_retv {e : Expr} {i : Nat} {pos : Pos} (he : PE X e (tVar i)) : PS X (.Return (some e) pos) (tS G cl L (.retv i)) :=
  ps_imp (ps_ret he) fun D σ H ⟨env, f, E, ev, q⟩ => by
    rw [evalS] at ev
    split at ev
    · rename_i d h1
      cases ev
      obtain ⟨v, e1, r⟩ := E.slot i _ h1
      exact ⟨v, e1, q v σ H E r⟩
    · rename_i ds h1
      cases ev
      obtain ⟨a, xs, e1, ha, r, h0⟩ := E.slot i _ h1
      exact ⟨.ref a, e1, q _ σ H (drop_slot E h1) ⟨a, xs, rfl, h0, ha, r⟩⟩
    · cases ev
theorem s_ret0 {pos : Pos} : PS X (.Return none pos) (tS G cl L .ret0) := ps_imp ps_retN fun D σ H ⟨env, f, E, ev, q⟩ => by
  rw [evalS] at ev
  cases ev
  exact q .non σ H E (show Rep G.toRc H .non .non from rep_non.mpr rfl)
theorem s_drop {e : Expr} {c : CE} {pos : Pos} (he : PE X e (tE G cl c)) (hs : swapsWith e none pos.line X.env = pure false) : PS X (.Expr e pos) (tS G cl L (.drop c)) :=
  ps_imp (ps_expr he hs) fun D σ H ⟨env, f, E, ev, q⟩ => by
    rw [evalS] at ev
    split at ev
    · rename_i s e1 h1
      cases ev
      exact ⟨env, s, e1, E, h1, fun v H' p r => q σ H' p.ok (p.fr.kp E)⟩
    · cases ev
theorem s_ife {c : Expr} {a b : List Stmt} {cc : CE} {ca cb : CSs} {pos : Pos} (hc : PT X c (tT G cl cc)) (ha : PSs X a (tSs G cl L ca)) (hb : PSs X b (tSs G cl L cb)) : PS X (.If c a b pos) (tS G cl L (.ife cc ca cb)) :=
  ps_imp (ps_if hc ha hb) fun D σ H ⟨env, f, E, ev, q⟩ => by
    rw [evalS] at ev
    obtain ⟨x, e1, ev1, ev⟩ := bindB_some' ev
    refine ⟨env, x, e1, E, ev1, fun H1 p1 => ?_⟩
    cases x with
    | true => exact ⟨e1, f, p1.ok, ev, q.mono (p1.fr.kp E)⟩
    | false => exact ⟨e1, f, p1.ok, ev, q.mono (p1.fr.kp E)⟩
theorem set_slot {env e1 e2 : En} {σ : Sg} {H H' : Hp} {i : Nat} {s : Slot} {v : V} (E : EnvOk G env σ H) (p : Post G env σ H e1 H') (r : SlotRep G H H' s v) (h : setSlot e1 i s = some e2) : EnvOk G e2 (σ.set i (some v)) H' := by
  cases s with
  | val d => exact set_val p.ok h r
  | own ds =>
    obtain ⟨a, xs, rfl, hn, hl, rr⟩ := r
    exact set_own p.ok h hl rr (E.fresh hn) fun m => by
      obtain ⟨ys, z⟩ := (p.mut m).lst E
      rw [hn] at z; cases z
  | nil => exact r.elim
  | io _ => exact r.elim
theorem s_asg {x : Str} {e : Expr} {i : Nat} {c : CE} {pos' pos : Pos} (base : PS X (.Assign [.Name x pos'] e pos) (tAsg (tE G cl c) (gName i))) : PS X (.Assign [.Name x pos'] e pos) (tS G cl L (.asg (.nm i) c)) :=
  ps_imp base fun D σ H ⟨env, f, E, ev, q⟩ => by
    rw [evalS] at ev
    split at ev
    · rename_i s e1 h1
      obtain ⟨e2, h2, h3⟩ := map_some' ev
      cases h3
      exact ⟨env, s, e1, E, h1, fun v H' p r => q _ H' (set_slot E p r h2) (p.fr.kp E)⟩
    · cases ev
theorem s_tup {tg e : Expr} {is : List Nat} {c : CE} {pos : Pos} (he : PE X e (tE G cl c)) (hg : PG X tg (tG G (.tp is))) (hs : swapsWithSole [tg] e pos.line X.env = pure false) (hw : swappedStores [tg] e X.env = pure none) (h1 : (assignEach [tg] X.env).map (·.2) = [assign tg X.env]) :
    PS X (.Assign [tg] e pos) (tS G cl L (.asg (.tp is) c)) :=
  ps_imp (ps_asg (pe_val he) hg hs hw h1) fun D σ H ⟨env, f, E, ev, q⟩ => by
    rw [evalS] at ev
    obtain ⟨s1, x, e1, ev1, d1, ev⟩ := bindV_some ev
    obtain ⟨e2, h2, h3⟩ := map_some' ev
    cases h3
    exact ⟨env, s1, e1, x, E, ev1, d1, fun v H1 p1 r1 => ⟨e1, x, e2, p1.ok, r1, h2, fun σ' E' off => q σ' H1 E' (p1.fr.kp E)⟩⟩

def setsσ (σ : Sg) : List Nat → List V → Sg
  | i :: is, v :: vs => setsσ (σ.set i (some v)) is vs
  | _, _ => σ
def SlsOk (G : Gh) (H H' : Hp) : List Slot → List V → Prop
  | [], [] => True
  | s :: ss, v :: vs => SlotRep G H H' s v ∧ SlsOk G H H' ss vs
  | _, _ => False
def tSl (G : Gh) (cl : Oracle) (c : CEs) : TA := fun σ H Q => ∃ env ss env', EnvOk G env σ H ∧ evalSl cl c env = some (ss, env') ∧ ∀ vs H', Post G env σ H env' H' → SlsOk G H H' ss vs → (ownsOf ss vs).Nodup → Q vs H'
theorem l_nil : PA X [] (tSl G cl .nil) := pa_imp pa_nil fun σ H Q ⟨env, ds, env', E, ev, q⟩ => by
  rw [evalSl] at ev
  cases ev
  exact q [] H (Post.refl E) trivial List.nodup_nil
theorem sls_own {H H' : Hp} : ∀ {ss : List Slot} {vs : List V} {a : Addr}, SlsOk G H H' ss vs → a ∈ ownsOf ss vs → H a = none
  | [], [], _, _, m => by simp [ownsOf] at m
  | [], _ :: _, _, h, _ => h.elim
  | _ :: _, [], _, h, _ => h.elim
  | s :: ss, v :: vs, a, h, m => by
    cases s with
    | own ds =>
      obtain ⟨⟨b, xs, rfl, hn, _⟩, h2⟩ := h
      rcases List.mem_cons.mp (show a ∈ b :: ownsOf ss vs from m) with rfl | m
      · exact hn
      · exact sls_own h2 m
    | val d => exact sls_own h.2 (by cases v <;> exact m)
    | nil => exact h.1.elim
    | io _ => exact h.1.elim
theorem sls_keep {H H1 H' : Hp} (f : ∀ a, H1 a = none → H a = none) : ∀ {ss : List Slot} {vs : List V}, SlsOk G H1 H' ss vs → SlsOk G H H' ss vs
  | [], [], _ => trivial
  | [], _ :: _, h => h.elim
  | _ :: _, [], h => h.elim
  | s :: ss, v :: vs, h => ⟨by
    cases s with
    | own ds =>
      obtain ⟨b, xs, e, hn, r⟩ := h.1
      exact ⟨b, xs, e, f b hn, r⟩
    | val d => exact h.1
    | nil => exact h.1
    | io _ => exact h.1, sls_keep f h.2⟩
theorem l_cons {e : Expr} {es : List Expr} {c : CE} {cs : CEs} (hs : isStar e = false) (he : PE X e (tE G cl c)) (hr : PA X es (tSl G cl cs)) : PA X (e :: es) (tSl G cl (.cons c cs)) :=
  pa_imp (pa_cons he hr (star_one hs)) fun σ H Q ⟨env, ds, env', E, ev, q⟩ => by
    rw [evalSl] at ev
    split at ev
    · rename_i s e1 h1
      obtain ⟨xs, e2, ev2, ev⟩ := bindSs_some' ev
      cases ev
      refine ⟨env, s, e1, E, h1, fun v H1 p1 r1 => ?_⟩
      refine ⟨e1, xs, _, p1.ok, ev2, fun vs H2 p2 r2 nd => ?_⟩
      refine q _ H2 (p1.trans p2) ⟨?_, sls_keep p1.fr.trk r2⟩ ?_
      · cases s with
        | own ds =>
          obtain ⟨a, ys, ea, hn, hl, rr⟩ := r1
          refine ⟨a, ys, ea, hn, p2.fr.keep a _ hl fun m => ?_, rr.keep (p2.fr.kp p1.ok)⟩
          obtain ⟨zs, z⟩ := (p1.mut m).lst E
          rw [hn] at z; cases z
        | val d => exact r1.keep (p2.fr.kp p1.ok)
        | nil => exact r1
        | io _ => exact r1
      · cases s with
        | own ds =>
          obtain ⟨a, ys, rfl, hn, hl, rr⟩ := r1
          refine List.nodup_cons.mpr ⟨fun m => ?_, nd⟩
          have := sls_own r2 m
          rw [hl] at this; cases this
        | val d => cases v <;> exact nd
        | nil => exact r1.elim
        | io _ => exact r1.elim
    · cases ev
theorem sets_ok : ∀ {is : List Nat} {ss : List Slot} {vs : List V} {e1 e2 : En} {τ : Sg} {H H' : Hp}, EnvOk G e1 τ H' → (∀ a, H a = none → G.H0 a = none) → (∀ a ∈ ownsOf ss vs, ¬ MutAt e1 τ a) → (ownsOf ss vs).Nodup → SlsOk G H H' ss vs → setSlots e1 is ss = some e2 → EnvOk G e2 (setsσ τ is vs) H'
  | [], [], [], _, _, _, _, _, E, _, _, _, _, h => by cases h; exact E
  | [], [], _ :: _, _, _, _, _, _, _, _, _, _, r, _ => r.elim
  | [], _ :: _, _, _, _, _, _, _, _, _, _, _, _, h => by cases h
  | _ :: _, [], _, _, _, _, _, _, _, _, _, _, _, h => by cases h
  | _ :: _, _ :: _, [], _, _, _, _, _, _, _, _, _, r, _ => r.elim
  | i :: is, s :: ss, v :: vs, e1, e2, τ, H, H', E, h0, hm, nd, r, h => by
    unfold setSlots at h
    split at h
    · rename_i e3 h3
      obtain ⟨w1, w2, rfl⟩ := setSlot_some h3
      cases s with
      | val d =>
        have E3 := set_val E h3 r.1
        show EnvOk G e2 (setsσ (τ.set i (some v)) is vs) H'
        refine sets_ok E3 h0 (fun a ha m => ?_) (by cases v <;> exact nd) r.2 h
        obtain ⟨k, t, f1, f2, f3⟩ := m
        have hk : k ≠ i := fun z => by
          subst z
          rw [List.getElem?_set_self w1] at f1
          cases f1
          cases f2
        rw [List.getElem?_set_ne (Ne.symm hk)] at f1 f3
        exact hm a (by cases v <;> exact ha) ⟨k, t, f1, f2, f3⟩
      | own ds =>
        obtain ⟨⟨a, xs, rfl, hn, hl, rr⟩, r2⟩ := r
        have nd' : (a :: ownsOf ss vs).Nodup := nd
        obtain ⟨n1, n2⟩ := List.nodup_cons.mp nd'
        have E3 := set_own E h3 hl rr (h0 a hn) (hm a List.mem_cons_self)
        show EnvOk G e2 (setsσ (τ.set i (some (V.ref a))) is vs) H'
        refine sets_ok E3 h0 (fun b hb m => ?_) n2 r2 h
        obtain ⟨k, t, f1, f2, f3⟩ := m
        by_cases hk : k = i
        · subst hk
          rw [List.getElem?_set_self (by rw [← E.len]; exact w1)] at f3
          cases f3
          exact n1 hb
        · rw [List.getElem?_set_ne (Ne.symm hk)] at f1 f3
          exact hm b (List.mem_cons_of_mem _ hb) ⟨k, t, f1, f2, f3⟩
      | nil => exact r.1.elim
      | io _ => exact r.1.elim
    · cases h
theorem sls_len {H H' : Hp} : ∀ {ss : List Slot} {vs : List V}, SlsOk G H H' ss vs → vs.length = ss.length
  | [], [], _ => rfl
  | [], _ :: _, h => h.elim
  | _ :: _, [], h => h.elim
  | s :: ss, v :: vs, h => by simp [sls_len h.2]
theorem setSlots_len : ∀ {is : List Nat} {ss : List Slot} {e1 e2 : En}, setSlots e1 is ss = some e2 → is.length = ss.length
  | [], [], _, _, _ => rfl
  | [], _ :: _, _, _, h => by cases h
  | _ :: _, [], _, _, h => by cases h
  | i :: is, s :: ss, e1, e2, h => by
    unfold setSlots at h
    split at h
    · simp [setSlots_len h]
    · cases h
theorem asl_reads {is : List Nat} {cs : CEs} {D : Ends} {σ : Sg} {H : Hp} (h : tS G cl L (.asl is cs) D σ H) : tSl G cl cs σ H fun vs H1 => vs.length = is.length ∧ D.nx (setsσ σ is vs) H1 := by
  obtain ⟨env, f, E, ev, q⟩ := h
  rw [evalS] at ev
  obtain ⟨ss, e1, ev1, ev⟩ := bindSs_some' ev
  obtain ⟨e2, h2, h3⟩ := map_some' ev
  cases h3
  refine ⟨env, ss, e1, E, ev1, fun vs H1 p r nd => ⟨by rw [sls_len r, setSlots_len h2], q _ H1 (sets_ok p.ok (fun a hn => E.fresh hn) (fun a ha m => ?_) nd r h2) (p.fr.kp E)⟩⟩
  obtain ⟨ys, z⟩ := (p.mut m).lst E
  rw [sls_own r ha] at z; cases z
theorem s_par {i j : Nat} {tg v : Expr} {cs : CEs} {pos : Pos} (base : PS X (.Assign [tg] v pos) (tPar i j (tSl G cl cs))) : PS X (.Assign [tg] v pos) (tS G cl L (.asl [i, j] cs)) :=
  ps_imp base fun D σ H h => by
    obtain ⟨env, ss, e1, E, ev, q⟩ := asl_reads h
    refine ⟨env, ss, e1, E, ev, fun vs H1 p r nd => ?_⟩
    obtain ⟨hl, q2⟩ := q vs H1 p r nd
    match vs, hl with
    | [a, b], _ => exact ⟨a, b, rfl, q2⟩
theorem s_par3 {i j k : Nat} {tg v : Expr} {cs : CEs} {pos : Pos} (base : PS X (.Assign [tg] v pos) (tPar3 i j k (tSl G cl cs))) : PS X (.Assign [tg] v pos) (tS G cl L (.asl [i, j, k] cs)) :=
  ps_imp base fun D σ H h => by
    obtain ⟨env, ss, e1, E, ev, q⟩ := asl_reads h
    refine ⟨env, ss, e1, E, ev, fun vs H1 p r nd => ?_⟩
    obtain ⟨hl, q2⟩ := q vs H1 p r nd
    match vs, hl with
    | [a, b, c], _ => exact ⟨a, b, c, rfl, q2⟩
def tGn (is : List Nat) : TGs := fun vs σ H Q => vs.length = is.length ∧ Q (setsσ σ is vs) H
theorem gn_nil : PGs X [] (tGn []) := pgs_imp pgs_nil fun vs σ H Q ⟨l, q⟩ => by
  have : vs = [] := List.eq_nil_of_length_eq_zero l
  subst this
  exact ⟨rfl, q⟩
theorem gn_cons {x : Str} {i : Nat} {is : List Nat} {pos : Pos} {es : List Expr} (h : PG X (.Name x pos) (gName i)) (h2 : PGs X es (tGn is)) : PGs X (.Name x pos :: es) (tGn (i :: is)) :=
  pgs_imp (pgs_cons h h2) fun vs σ H Q ⟨l, q⟩ => by
    cases vs with
    | nil => simp at l
    | cons v vs => exact ⟨v, vs, rfl, by simpa using l, q⟩
theorem s_mul (hK : X.K = G.toRc.K) {is : List Nat} {ts vs : List Expr} {cs : CEs} {k1 k2 : Nat} {p1 p2 pos : Pos} (hc : X.calm = true) (ha : PA X vs (tSl G cl cs)) (hg : PGs X ts (tGn is)) (hn : (assignEach ts X.env).length = is.length) (hst : (assignEach ts X.env).findIdx? (·.1) = none)
    (hs : swapsWithSole [.Tuple ts k1 p1] (.Tuple vs k2 p2) pos.line X.env = pure false) (hw : swappedStores [.Tuple ts k1 p1] (.Tuple vs k2 p2) X.env = pure none) (h1 : (assignEach [.Tuple ts k1 p1] X.env).map (·.2) = [assign (.Tuple ts k1 p1) X.env]) (hz : is.length ≤ sizeLine) :
    PS X (.Assign [.Tuple ts k1 p1] (.Tuple vs k2 p2) pos) (tS G cl L (.asl is cs)) := by
  refine ps_imp (ps_asg (pe_tup ha) (pg_tup hc hg hn hst) hs hw h1) fun D σ H h => ?_
  obtain ⟨env, f, E, ev, q⟩ := h
  rw [evalS] at ev
  obtain ⟨ss, e1, ev1, ev⟩ := bindSs_some' ev
  obtain ⟨e2, h2, h3⟩ := map_some' ev
  cases h3
  refine ⟨env, ss, e1, E, ev1, fun us H1 p r nd => ?_⟩
  have hl : us.length = is.length := by rw [sls_len r, setSlots_len h2]
  refine ⟨by rw [hl]; exact hz, fun t ht => ⟨t, us, rfl, .inl (.inl upd_same), hl, hl, ?_⟩⟩
  have E2 := sets_ok p.ok (fun a hn => E.fresh hn) (fun a ha m => by
    obtain ⟨ys, z⟩ := (p.mut m).lst E
    rw [sls_own r ha] at z; cases z) nd r h2
  exact q _ _ (E2.ext (Ext.new ht)) ((p.fr.kp E).trans (Ext.new ht).kp)

theorem s_setix {o k e : Expr} {i : Nat} {ck ce : CE} {p pos : Pos} (ho : PE X o (tVar i)) (hk : PE X k (tE G cl ck)) (he : PE X e (tE G cl ce)) (base : ∀ {te : TE} {g : TG}, PE X e te → PG X (.Subscript o k p) g → PS X (.Assign [.Subscript o k p] e pos) (tAsg te g))
    (sub : ∀ {to ti : TE} {t : TSet}, PE X o to → PE X k ti → PSet X t → PG X (.Subscript o k p) (gSub to ti t)) : PS X (.Assign [.Subscript o k p] e pos) (tS G cl L (.setix i ck ce)) :=
  ps_imp (base (pe_val he) (sub ho (pe_val hk) set_list)) fun D σ H ⟨env, f, E, ev, q⟩ => by
    rw [evalS] at ev
    obtain ⟨s1, x, e1, ev1, d1, ev⟩ := bindV_some ev
    split at ev
    · rename_i hs
      obtain ⟨d0, hd0⟩ := Option.isSome_iff_exists.mp hs
      obtain ⟨s2, y, e2, ev2, d2, ev⟩ := bindV_some ev
      refine ⟨env, s1, e1, x, E, ev1, d1, fun v H1 p1 r1 => ?_⟩
      obtain ⟨_, a, _, _, _, _, hσ, _, _⟩ := list_at p1.ok hd0
      refine ⟨.ref a, hσ, e1, s2, e2, y, p1.ok, ev2, d2, fun w H2 p2 r2 => ?_⟩
      split at ev
      · rename_i ds n hd
        split at ev
        · rename_i j hj
          obtain ⟨e3, h3, h4⟩ := map_some' ev
          cases h4
          obtain ⟨s3, b, xs, he3, hm3, _, hσ3, hb, rr⟩ := list_at p2.ok hd
          rw [hσ] at hσ3; cases hσ3
          refine ⟨a, xs, n, j, rfl, rep_int.mp r2, hb, by rw [rr.length]; exact hj, ?_⟩
          have pp := put_list p2.ok he3 hm3 hσ h3 (((rr.keep (Kp.put hb)).set j) (((r1.keep (p2.fr.kp p1.ok))).keep (Kp.put hb)))
          exact q σ _ pp.ok (((p1.fr.kp E).trans (p2.fr.kp p1.ok)).trans (pp.fr.kp p2.ok))
        · cases ev
      · cases ev
    · cases ev
theorem s_app {x : Str} {e : Expr} {i : Nat} {c : CE} {p1 ap cp pos : Pos} (hv : PE X (.Name x p1) (tVar i)) (he : PE X e (tE G cl c)) (hst : isStar e = false)
    (base : ∀ {to : TE} {t : TA}, PE X (.Name x p1) to → PA X [e] t → PS X (.Expr (.Call (.Attribute (.Name x p1) "append" ap) [e] [] cp) pos) (tDrop (tBM X.K "list" rAppend to t))) : PS X (.Expr (.Call (.Attribute (.Name x p1) "append" ap) [e] [] cp) pos) (tS G cl L (.app i c)) :=
  ps_imp (base hv (pa_cons (pe_val he) pa_nil (star_one hst))) fun D σ H ⟨env, f, E, ev, q⟩ => by
    rw [evalS] at ev
    split at ev
    · rename_i hs
      obtain ⟨d0, hd0⟩ := Option.isSome_iff_exists.mp hs
      obtain ⟨s1, x, e1, ev1, d1, ev⟩ := bindV_some ev
      obtain ⟨_, a, ys, _, _, _, hσ, ha, _⟩ := list_at E hd0
      refine ⟨.ref a, hσ, .inl ⟨rfl, ys, SqL.of ha⟩, env, s1, e1, x, E, ev1, d1, fun v H1 p1 r1 => ?_⟩
      split at ev
      · rename_i ds hd
        split at ev
        · rename_i hz
          obtain ⟨e3, h3, h4⟩ := map_some' ev
          cases h4
          obtain ⟨s3, b, xs, he3, hm3, _, hσ3, hb, rr⟩ := list_at p1.ok hd
          rw [hσ] at hσ3; cases hσ3
          refine ⟨a, xs, v, rfl, rfl, hb, by rw [rr.length]; exact hz, ?_⟩
          have pp := put_list p1.ok he3 hm3 hσ h3 ((rr.keep (Kp.put hb)).append (reps_cons.mpr ⟨v, [], rfl, r1.keep (Kp.put hb), by rw [reps_nil]⟩))
          exact q σ _ pp.ok ((p1.fr.kp E).trans (pp.fr.kp p1.ok))
        · cases ev
      · cases ev
    · cases ev
theorem s_ext {x : Str} {e : Expr} {i : Nat} {c : CE} {p1 ap cp pos : Pos} (hv : PE X (.Name x p1) (tVar i)) (he : PE X e (tE G cl c)) (hst : isStar e = false)
    (base : ∀ {to : TE} {t : TA}, PE X (.Name x p1) to → PA X [e] t → PS X (.Expr (.Call (.Attribute (.Name x p1) "extend" ap) [e] [] cp) pos) (tDrop (tBM X.K "list" rExtend to t))) : PS X (.Expr (.Call (.Attribute (.Name x p1) "extend" ap) [e] [] cp) pos) (tS G cl L (.ext i c)) :=
  ps_imp (base hv (pa_cons he pa_nil (star_one hst))) fun D σ H ⟨env, f, E, ev, q⟩ => by
    rw [evalS] at ev
    split at ev
    · rename_i hs
      obtain ⟨d0, hd0⟩ := Option.isSome_iff_exists.mp hs
      obtain ⟨_, a, ys, _, _, _, hσ, ha, _⟩ := list_at E hd0
      split at ev
      · rename_i zs e1 ev1
        refine ⟨.ref a, hσ, .inl ⟨rfl, ys, SqL.of ha⟩, env, _, e1, E, ev1, fun v H1 p1 r1 => ?_⟩
        split at ev
        · rename_i ds hd
          split at ev
          · rename_i hz
            obtain ⟨e3, h3, h4⟩ := map_some' ev
            cases h4
            obtain ⟨s3, b, xs, he3, hm3, _, hσ3, hb, rr⟩ := list_at p1.ok hd
            rw [hσ] at hσ3; cases hσ3
            obtain ⟨b2, ws, rfl, hn, hl, rw'⟩ := r1
            refine ⟨a, b2, xs, ws, rfl, rfl, hb, hl, by rw [rr.length, rw'.length]; exact hz, ?_⟩
            have pp := put_list p1.ok he3 hm3 hσ h3 ((rr.keep (Kp.put hb)).append (rw'.keep (Kp.put hb)))
            exact q σ _ pp.ok ((p1.fr.kp E).trans (pp.fr.kp p1.ok))
          · cases ev
        · cases ev
      · cases ev
    · cases ev

theorem s_whl {c : Expr} {body : List Stmt} {cc : CE} {cb : CSs} {pos : Pos} (hp : PassesOwn (model X.prog X.w) X.A X.env X.xe) (hc : PT X c (tT G cl cc)) (hb : PSs X body (tSs G cl L cb)) : PS X (.While c body [] pos) (tS G cl L (.whl cc cb)) :=
  ps_imp (ps_while hp hc hb) fun D σ H ⟨env, f, E, ev, q⟩ => by
    rw [evalS] at ev
    refine ⟨fun m σ' H' => ∃ en, EnvOk G en σ' H' ∧ Kp H H' ∧ whlLoop (evalT cl cc) (evalSs cl L cb) m en = some f, ⟨L, env, E, Kp.refl H, ev⟩, ?_⟩
    rintro m σ' H' ⟨en, E', k, hw⟩
    cases m with
    | zero => cases hw
    | succ n =>
      unfold whlLoop at hw
      split at hw
      · rename_i e1 h1
        refine ⟨en, true, e1, E', h1, fun H1 p1 => ?_⟩
        simp only [if_true]
        have k1 := k.trans (p1.fr.kp E')
        refine ⟨fun σ2 H2 => ∃ en2, EnvOk G en2 σ2 H2 ∧ Kp H H2 ∧ whlLoop (evalT cl cc) (evalSs cl L cb) n en2 = some f, fun σ2 H2 h => ⟨n, by omega, h⟩, ?_⟩
        cases hbd : evalSs cl L cb e1 with
        | none => rw [hbd] at hw; cases hw
        | some g =>
          rw [hbd] at hw
          refine ⟨e1, g, p1.ok, hbd, ?_⟩
          cases g with
          | nx e2 => exact fun σ2 H2 E2 k2 => ⟨e2, E2, k1.trans k2, hw⟩
          | ct e2 => exact fun σ2 H2 E2 k2 => ⟨e2, E2, k1.trans k2, hw⟩
          | bk e2 =>
            cases hw
            exact fun σ2 H2 E2 k2 => q σ2 H2 E2 (k1.trans k2)
          | rt r e2 =>
            cases hw
            exact q
      · rename_i e1 h1
        cases hw
        refine ⟨en, false, e1, E', h1, fun H1 p1 => ?_⟩
        simp only [Bool.false_eq_true, if_false]
        exact q σ' H1 p1.ok (k.trans (p1.fr.kp E'))
      · cases hw
theorem s_for {tg it : Expr} {body : List Stmt} {t : Tg} {ci : CI} {cb : CSs} {pos : Pos} (hp : PassesOwn (model X.prog X.w) X.A X.env X.xe) (hc : X.calm = true) (hi : PI X tg it (tI G cl ci)) (hg : PG X tg (tG G t)) (hb : PSs X body (tSs G cl L cb)) (hs : ∀ x, foldedSetIterable it X.env x = pure x) :
    PS X (.For tg it body [] pos) (tS G cl L (.fr t ci cb)) :=
  ps_imp (ps_for hp hc hi hg hb hs) fun D σ H ⟨env, f, E, ev, q⟩ => by
    rw [evalS] at ev
    obtain ⟨xs, e1, ev1, ev⟩ := bindDs_some' ev
    refine ⟨env, xs, e1, E, ev1, fun J H1 p1 wk hlen => ?_⟩
    have k0 := p1.fr.kp E
    refine ⟨fun i m σ' H' => ∃ en, EnvOk G en σ' H' ∧ Kp H1 H' ∧ i ≤ xs.length ∧ m = xs.length - i ∧ forLoop (bodyAt t fun e => evalSs cl L cb e) (xs.drop i) en = some f,
      ⟨xs.length, e1, p1.ok, Kp.refl H1, Nat.zero_le _, rfl, by simpa using ev⟩, ?_⟩
    rintro i m σ' H' ⟨en, E', k, hi', hm, hw⟩
    by_cases hlt : i < xs.length
    · right
      refine ⟨wk.go i H' k hlt, _, fun σ2 H2 h => ⟨m - 1, by omega, h⟩, fun x H2 hy => ?_⟩
      obtain ⟨ext, d, hd, rd⟩ := wk.yld i H' x H2 k hlt hy
      have hdrop : xs.drop i = d :: xs.drop (i + 1) := by
        have : xs[i] = d := by
          rw [List.getElem?_eq_getElem hlt] at hd
          exact Option.some.inj hd
        rw [← this]
        exact List.drop_eq_getElem_cons hlt
      rw [hdrop] at hw
      unfold forLoop bodyAt at hw
      cases hb : bindTg t d en with
      | none => rw [hb] at hw; cases hw
      | some e2 =>
        rw [hb] at hw
        simp only at hw
        refine ⟨en, d, e2, E'.ext ext, rd, hb, fun σ2 E2 off => ?_⟩
        have k2 := k.trans ext.kp
        cases hbd : evalSs cl L cb e2 with
        | none => rw [hbd] at hw; cases hw
        | some g =>
          rw [hbd] at hw
          refine ⟨e2, g, E2, hbd, ?_⟩
          cases g with
          | nx e3 => exact fun σ3 H3 E3 k3 => ⟨e3, E3, k2.trans k3, by omega, by omega, hw⟩
          | ct e3 => exact fun σ3 H3 E3 k3 => ⟨e3, E3, k2.trans k3, by omega, by omega, hw⟩
          | bk e3 =>
            cases hw
            exact fun σ3 H3 E3 k3 => q σ3 H3 E3 (k0.trans (k2.trans k3))
          | rt r e3 =>
            cases hw
            exact q
    · left
      have hi2 : i = xs.length := by omega
      subst hi2
      rw [List.drop_length] at hw
      unfold forLoop at hw
      cases hw
      exact ⟨wk.stop H' k, q σ' H' E' (k0.trans k)⟩
theorem s_try {body : List Stmt} {h₀ : ExceptHandler} {hs : List ExceptHandler} {cb : CSs} {pos : Pos} (hb : PSs X.nox body (tSs G cl L cb)) : PS X (.Try body (h₀ :: hs) [] [] pos) (tS G cl L (.try_ cb)) :=
  ps_imp (ps_try_thru0 hb) fun D σ H ⟨env, f, E, ev, q⟩ => by
    rw [evalS] at ev
    exact ⟨env, f, E, ev, q⟩
end
end Pi

-- PiComp2
set_option maxHeartbeats 2000000
namespace Pi
open PySem PySem.Spec PyProof.Rows L2

structure Tab where
  fn : Str → Nat → List (Nat × List Bool × List D)
  cst : Str → Option D
  fv : Str → Option Nat

def dbg (x : Str) : Bool := (x == ("__debug__" : Str)) || (x == ("__classdict__" : Str))
def slotOf (N : List Str) (sc : Scope) (x : Str) : Option Nat :=
  if dbg x then none else match sc.names.lookup x with
  | some .local | some .cell | some .free => N.findIdx? (· == x)
  | _ => none
def globOf (sc : Scope) (x : Str) : Bool := !dbg x && (match sc.names.lookup x with | some .globalImplicit => true | _ => false)
def mapEs (f : Expr → Option CE) : List Expr → Option CEs
  | [] => some .nil
  | e :: es => if isStar e then none else match f e, mapEs f es with
    | some c, some cs => some (.cons c cs)
    | _, _ => none
def argOf (f : Expr → Option CE) (sl : Str → Option Nat) (m : Bool) (e : Expr) : Option CE :=
  if m then match e with
    | .Name x _ => (sl x).map .io
    | _ => none
  else if isStar e then none else match f e with
    | some c => if isIo c then none else some c
    | none => none
def mapAs (f : Expr → Option CE) (sl : Str → Option Nat) : List Bool → List Expr → Option CEs
  | _, [] => some .nil
  | [], _ :: _ => none
  | m :: ms, e :: es => match argOf f sl m e, mapAs f sl ms es with
    | some c, some cs => some (.cons c cs)
    | _, _ => none
def bopOf : Operator → Option BOp
  | .Add => some .add | .Sub => some .sub | .Mult => some .mul | .FloorDiv => some .fdiv | .Mod => some .mod | .Pow => some .pow
  | _ => none
def copOf : CmpOp → Option COp
  | .Eq => some .eq | .NotEq => some .ne | .Lt => some .lt | .LtE => some .le | .Gt => some .gt | .GtE => some .ge | .In => some .inn | .NotIn => some .nin
  | _ => none
def biOf (x : Str) : Option BI :=
  if x = "len" then some .len else if x = "abs" then some .abs else if x = "min" then some .min else if x = "max" then some .max else if x = "int" then some .int else
  if x = "sum" then some .sum else if x = "tuple" then some .tuple else if x = "list" then some .list else if x = "all" then some .all else if x = "any" then some .any else
  if x = "repr" then some .repr else none
def tyOf (x : Str) : Option Ty :=
  if x = "int" then some .int else if x = "bool" then some .bool else if x = "str" then some .str else if x = "tuple" then some .tuple else if x = "list" then some .list else none
def ownIx (N : List Str) (sc : Scope) (x : Str) : Option Nat := match sc.names.lookup x with
  | some .local | some .cell => if dbg x then none else N.findIdx? (· == x)
  | _ => none
def nmsOf (N : List Str) (sc : Scope) : List Expr → Option (List Nat)
  | [] => some []
  | .Name x _ :: es => match ownIx N sc x, nmsOf N sc es with
    | some i, some is => some (i :: is)
    | _, _ => none
  | _ :: _ => none
def tgOf (N : List Str) (sc : Scope) : Expr → Option Tg
  | .Name x _ => match ownIx N sc x with
    | some i => some (.nm i)
    | none => none
  | .Tuple es _ _ => match nmsOf N sc es with
    | some is => some (.tp is)
    | none => none
  | _ => none
def ownOf (N : List Str) (scope : Scope) : List (Str × Nat) := scope.names.filterMap fun p => match p.2 with
  | .local | .cell => (N.findIdx? (· == p.1)).map fun i => (p.1, i)
  | _ => none
def noneE : Expr → Bool
  | .Constant .none _ _ => true
  | _ => false
def isM1 : Expr → Bool
  | .UnaryOp .USub (.Constant (.int i) _ _) _ => decide (i = 1)
  | _ => false
def noSet : Expr → Bool
  | .Set .. => false
  | _ => true
def natEq (a b : Nat) : Bool := a == b
section
variable (T : Tab) (N : List Str) (sc : Scope) (f : Expr → Option CE)
def c1 (g : CE → CE) (a : Expr) : Option CE := match f a with
  | some c => some (g c)
  | none => none
def c2 (g : CE → CE → CE) (a b : Expr) : Option CE := match f a, f b with
  | some c, some c' => some (g c c')
  | _, _ => none
def c3 (g : CE → CE → CE → CE) (a b d : Expr) : Option CE := match f a, f b, f d with
  | some c, some c', some c'' => some (g c c' c'')
  | _, _, _ => none
def cName (x : Str) : Option CE := match slotOf N sc x with
  | some i => some (.var i)
  | none => if globOf sc x then match T.cst x with
      | some d => some (.gc x d)
      | none => match T.fv x with
        | some j => some (.gf x j)
        | none => none
    else none
def cConst : Const → Option CE
  | .none => some (.cst .non)
  | .bool b => some (.cst (.bl b))
  | .int i => some (.cst (.int i))
  | .str s => some (.cst (.str s))
  | _ => none
def cUn (op : UnaryOp) (a : Expr) : Option CE := match op with
  | .USub => c1 f .neg a
  | .Not => c1 f .not a
  | _ => none
def cBin (op : Operator) (a b : Expr) : Option CE := match bopOf op with
  | some o => c2 f (.bin o) a b
  | none => none
def cCmp1 (op : CmpOp) (a b : Expr) : Option CE := match op with
  | .Is => if noneE b then c1 f (.isN false) a else none
  | .IsNot => if noneE b then c1 f (.isN true) a else none
  | op => if behindInMarks op b then none else match copOf op with
    | some o => c2 f (.cmp o) a b
    | none => none
def cCmp2 (op op' : CmpOp) (a b c : Expr) : Option CE := if lastMarks [op, op'] [b, c] then none else match copOf op, copOf op' with
  | some o, some o' => c3 f (.chain o o') a b c
  | _, _ => none
def cCompare (a : Expr) (ops : List CmpOp) (bs : List Expr) : Option CE := match ops, bs with
  | [op], [b] => cCmp1 f op a b
  | [op, op'], [b, c] => cCmp2 f op op' a b c
  | _, _ => none
def cBool (op : BoolOp) (es : List Expr) (pos : Pos) : Option CE := match es with
  | [] => none
  | [a] => f a
  | a :: b :: r => match op with
    | .And => c2 f .and a (.BoolOp .And (b :: r) pos)
    | .Or => c2 f .or a (.BoolOp .Or (b :: r) pos)
def slicerOf : Option Expr → Option CE
  | none => some (.cst .non)
  | some e => f e
def cSl (v : Expr) (lo hi : Option Expr) : Option CE := match slicerOf f lo, slicerOf f hi with
  | some l, some h => match v with
    | .Name x _ => match slotOf N sc x with
      | some k => some (.slv k l h)
      | none => match f v with
        | some c => some (.sl c l h)
        | none => none
    | v => match f v with
      | some c => some (.sl c l h)
      | none => none
  | _, _ => none
def cIx (v i : Expr) : Option CE := if noSlice i then match v with
    | .Name x _ => match slotOf N sc x with
      | some k => c1 f (.ixv k) i
      | none => c2 f .ix v i
    | v => c2 f .ix v i
  else none
def cSub (v i : Expr) : Option CE := match i with
  | .Slice none none (some s) _ => if isM1 s then c1 f .rev v else none
  | .Slice lo hi none _ => cSl N sc f v lo hi
  | i => cIx N sc f v i
def tryDef (a : Expr) (r : List Expr) (p : Nat × List Bool × List D) : Option CE := match mapAs f (slotOf N sc) p.2.1 (a :: r) with
  | some cs => if (iosOf cs).Nodup then some (.call p.1 cs p.2.2) else none
  | none => none
def cDef (x : Str) (a : Expr) (r : List Expr) : Option CE := (T.fn x (r.length + 1)).findSome? (tryDef N sc f a r)
def cLen (a : Expr) : Option CE := match a with
  | .Name x _ => match slotOf N sc x with
    | some k => some (.lenv k)
    | none => none
  | _ => none
def cBi (b : BI) (a : Expr) (r : List Expr) : Option CE := match mapEs f (a :: r) with
  | some cs => some (.bi b cs)
  | none => none
def cIsi (a y : Expr) : Option CE := match y with
  | .Name y _ => if globOf sc y && !isStar a then match f a, tyOf y with
      | some c, some t => some (.isi c t)
      | _, _ => none
    else none
  | _ => none
def cFn (x : Str) (a : Expr) (r : List Expr) : Option CE :=
  if x = "isinstance" then match r with
    | [y] => cIsi sc f a y
    | _ => none
  else match biOf x with
    | some b => if x = "len" && r.isEmpty then match cLen N sc a with
        | some c => some c
        | none => cBi f b a r
      else cBi f b a r
    | none => cDef T N sc f x a r
def cMeth (v : Expr) (m : Str) (ap : Pos) (args : List Expr) (cp : Pos) : Option CE := match v, args with
  | .Name x _, [] => if m = "pop" && natEq ap.endLine cp.line then match slotOf N sc x with
      | some k => some (.pop k)
      | none => none
    else none
  | _, _ => none
def cLoc (x : Str) (args : List Expr) : Option CE := match slotOf N sc x, args with
  | some i, a :: r => match mapAs f (slotOf N sc) (List.replicate (r.length + 1) false) (a :: r) with
    | some cs => if (iosOf cs).Nodup then some (.callv i cs) else none
    | none => none
  | _, _ => none
def cCall (g : Expr) (args : List Expr) (pos : Pos) : Option CE := match g with
  | .Name x _ => if globOf sc x then match args with
      | a :: r => cFn T N sc f x a r
      | [] => none
    else cLoc N sc f x args
  | .Attribute v m ap => cMeth N sc v m ap args pos
  | _ => none
def i1 (g : CE → CI) (a : Expr) : Option CI := match f a with
  | some c => some (g c)
  | none => none
def iRange (args : List Expr) : Option CI := match args with
  | [a] => if isStar a then none else i1 f .rg1 a
  | [a, b] => if isStar a || isStar b then none else match f a, f b with
    | some c, some c' => some (.rg2 c c')
    | _, _ => none
  | [a, b, d] => if isStar a || isStar b || isStar d then none else match f a, f b, f d with
    | some c, some c', some c'' => some (.rg3 c c' c'')
    | _, _, _ => none
  | _ => none
def iterOf (e : Expr) : Option CI := match e with
  | .Call (.Name x p) args [] pos => if x = "range" && globOf sc x then iRange f args else i1 f .sq (.Call (.Name x p) args [] pos)
  | e => if noSet e then i1 f .sq e else none
end
def condOf (f : Expr → Option CE) : List Expr → Option CE
  | [] => some (.cst (.bl true))
  | [c] => f c
  | _ => none
def cLc (N : List Str) (f : Scope → Expr → Option CE) (sc : Scope) (elt : Expr) (scope : Scope) (g : Comprehension) : Option CE := match g with
  | ⟨tg, iter, ifs, k⟩ => if decide (k = 0) && noSet iter && blkC N sc scope (ownOf N scope) then match iterOf sc (f sc) iter, tgOf N scope tg, f (relS scope sc) elt, condOf (f (relS scope sc)) ifs with
    | some ci, some t, some ce, some cc => if t.vars.all (fun j => ((ownOf N scope).map (·.2)).contains j) then some (.lc ce t ci cc ((ownOf N scope).map (·.2))) else none
    | _, _, _, _ => none
  else none

def cmpE (T : Tab) (N : List Str) : Nat → Scope → Expr → Option CE
  | 0, _, _ => none
  | n + 1, sc, e => match e with
    | .Name x _ => cName T N sc x
    | .Constant k _ _ => cConst k
    | .BinOp a op b _ => cBin (cmpE T N n sc) op a b
    | .UnaryOp op a _ => cUn (cmpE T N n sc) op a
    | .Compare a ops bs _ => cCompare (cmpE T N n sc) a ops bs
    | .BoolOp op es pos => cBool (cmpE T N n sc) op es pos
    | .IfExp c a b _ => c3 (cmpE T N n sc) .ife c a b
    | .Tuple es _ _ => match mapEs (cmpE T N n sc) es with
      | some cs => some (.tup cs)
      | none => none
    | .List es _ => match mapEs (cmpE T N n sc) es with
      | some cs => some (.lst cs)
      | none => none
    | .Subscript v i _ => cSub N sc (cmpE T N n sc) v i
    | .Call g args [] pos => cCall T N sc (cmpE T N n sc) g args pos
    | .ListComp elt [g] scope _ => cLc N (cmpE T N n) sc elt scope g
    | _ => none
end Pi

-- PiG
set_option maxHeartbeats 4000000
namespace Pi
open PySem PySem.Spec PyProof.Rows L2
structure FnG (P : Program) (w : World) (K : PySem.W.Frag) (mg : Str → Option Value) (base : Heap) (k : Nat) (f : Addr) (fd : FuncData) (ps : List Str) (sp : Sp) : Prop where
  len : ∀ vs H Q E, sp vs H Q E → vs.length = ps.length
  go : ∀ (A : Around) (outer : List PySem.Env) (s : Shared) (H : Hp) (args : Args) (us : List Value) (vs : List V) (Q : VK) (E : XK), A.guards = some [] → Room k A → Env0 P w K mg base A outer s H → BindsTo s fd args (ps.zip us) → Vals vs us → sp vs H Q E →
    codeAny (model P w) A (.call (.ref f) args) (CR CX0 outer P w H s Q E) s
section
variable {X : Cx} {k i : Nat} {f : Addr} {fd : FuncData} {ps : List Str} {sp : Sp} {dvs : List V} {ds : List Value} {E : XK} {x : Str} {p pos : Pos} {e : Expr} {es : List Expr} {t : TA}
theorem goes {pins : List (Addr × Obj)} {σ : Sg} {H : Hp} {s : Shared} {Q : VK} {us : List Value} {vs : List V} (F : FnG X.prog X.w X.K X.mg X.base k f fd ps sp) (hgd : X.A.guards = some []) (hr : Room k X.A) (hb : Binds X.K fd ps ds) (hd : Vals dvs ds) (hx : Passes CX0 X E)
    (I : Inv X pins σ H s) (r : Vals vs us) (h : sp (vs ++ dvs) H Q E) : wpAny (model X.prog X.w) X.A (PySem.call (.ref f) us) (EP X pins σ Q) X.xe s := by
  have both := r.append hd
  have hl : (us ++ ds).length = ps.length := both.length.symm.trans (F.len _ _ _ _ h)
  have run := F.go X.A X.stack s H ⟨us, []⟩ _ _ Q E hgd hr I.env0 (hb s us I.kIn hl) both h
  refine wpAny_call (codeAny_mono run fun r s' hq => ?_)
  match r, hq with
  | .error e, hq => exact hx pins σ H s e s' I hq
  | .ok (.ret u), hq => exact I.after hq
  | .ok .next, hq => exact hq.elim
  | .ok .brk, hq => exact hq.elim
  | .ok .cont, hq => exact hq.elim
theorem pe_callG (F : FnG X.prog X.w X.K X.mg X.base k f fd ps sp) (hgd : X.A.guards = some []) (hr : Room k X.A) (hg : Gl X x) (hm : X.mg x = some (.ref f)) (hk : PySem.W.keepIn X.K (.ref f) = true) (hb : Binds X.K fd ps ds) (hd : Vals dvs ds) (hx : Passes CX0 X E)
    (ha : PA X (e :: es) t) (hdb : (x == ("__debug__" : Str)) = false) (he : starEach (e :: es) X.env = (false, eval e X.env) :: starEach es X.env) (hpl : (backTo pos (starEach es X.env)).any (·.1) = false) :
    PE X (.Call (.Name x p) (e :: es) [] pos) (tCall sp dvs E t) :=
  ⟨fun pins s σ H Q I h => wpAny_Call_Name_kw (ld_glob I hg hm (PySem.W.callWith_K (h₀ := X.base) I.ok.mod.kin hk (thn (ha.run pos pins s σ H _ I h) fun us s1 ⟨vs, H1, I1, r, q⟩ => ⟨I1.kIn, goes F hgd hr hb hd hx I1 r q⟩) he hpl) hdb)⟩
structure HeldG (P : Program) (w : World) (K : PySem.W.Frag) (mg : Str → Option Value) (base : Heap) (k : Nat) (f : Addr) (sp : Sp) : Prop where
  ex : ∃ (fd : FuncData) (ps : List Str), FnG P w K mg base k f fd ps sp ∧ PySem.W.keepIn K (.ref f) = true ∧ Binds K fd ps []
theorem pe_callV {S : Addr → Sp → Prop} (A : ∀ f sp, S f sp → HeldG X.prog X.w X.K X.mg X.base k f sp) (hgd : X.A.guards = some []) (hr : Room k X.A) (hN : X.N[i]? = some x) (hv : Vis X.env.scope x) (ha : PA X (e :: es) t) (hx : Passes CX0 X fun _ _ _ => False)
    (hdb : (x == ("__debug__" : Str)) = false) (hcd : (x == ("__classdict__" : Str)) = false)
    (he : starEach (e :: es) X.env = (false, eval e X.env) :: starEach es X.env) (hpl : (backTo pos (starEach es X.env)).any (·.1) = false) : PE X (.Call (.Name x p) (e :: es) [] pos) (tCallV i S t) := by
  constructor
  intro pins s σ H Q I ⟨f, sp, hs, hS, ht⟩
  obtain ⟨fd, ps, F, hk, hb⟩ := (A f sp hS).ex
  have name := (pe_var (X := X) (pos := p) hN hv hdb hcd).run pins s σ H (fun v H1 => v = .ref f ∧ H1 = H) I ⟨.ref f, hs, rfl, rfl⟩
  refine wpAny_Call_Name_kw (thn name fun u s1 ⟨v, H1, I1, r1, e1, e2⟩ => ?_)
  subst e1; subst e2
  cases r1
  refine PySem.W.callWith_K (h₀ := X.base) I.ok.mod.kin hk (thn (ha.run pos pins s1 σ _ _ I1 ht) fun us s2 ⟨vs, H2, I2, r, q⟩ => ⟨I2.kIn, ?_⟩) he hpl
  exact goes F hgd hr hb .nil hx I2 r (by rw [List.append_nil]; exact q)
end
section
variable {P : Program} {w : World} {K : PySem.W.Frag} {mg : Str → Option Value} {base : Heap} {x qual : Str} {params : Arguments} {body : List Stmt} {scope : Scope} {dvs : List V} {kws : List (Str × V)} {f : Addr} {fd : FuncData}
theorem FunD.okG {N ps : List Str} {k : Nat} {sp : Sp} (F : FunD K x qual params body scope dvs kws f fd) (S : FnScope N ps scope) (len : ∀ vs H Q E, sp vs H Q E → vs.length = ps.length)
    (hbody : ∀ (cdv : Value) (A : Around) (outer : List PySem.Env) (s : Shared) (H : Hp) (vs : List V) (Q : VK) (E : XK), A.guards = some [] → Room k (A.deeper (envOfC qual scope s.heap.objs.size f cdv)) → sp vs H Q E →
      ∃ t, PSs (cxOf CX0 P w K mg base N qual scope f cdv A outer s H E) body t ∧ t { nx := fun _ H' => Q .non H', rt := Q } (L2.start N vs) H) : FnG P w K mg base (k + 1) f fd ps sp := by
  obtain ⟨oc, od, dV, kV, doc, pm, an, cdv, ct, osl, rfl, lk, hcd, _, _⟩ := F.ex
  refine ⟨len, fun A outer s H args us vs Q E hgd hr e0 hb r hsp => ?_⟩
  have hl := len _ _ _ _ hsp
  have kept : ∀ b o, base.get? b = some o → s.heap.get? b = some o := fun b o e => (e0.bs b o e).1
  have KX := e0.mod.kin.keeps kept
  have lim := e0.mod.nolimit.keeps kept
  have hkind : ∀ y ∈ ps.zip us, scope.names.lookup y.1 = some .local ∨ (scope.names.lookup y.1 = some .cell ∧ ((cellsFrom (s.heap.objs.size + 1) scope.names []).lookup y.1).isSome = true) := by
    rintro ⟨n, v⟩ hy
    exact (S.par n (List.of_mem_zip hy).1).imp id fun q => ⟨q, PySem.W.cellsFrom_some _ _ _ (.inl q)⟩
  refine codeAny_call_function hr.depth (KX _ _ lk) rfl S.co S.gen rfl (PySem.W.codeRec_of KX hcd) (hb _ _ _ _ (wpAny_newFunctionEnv_cells S.kind hkind fun env he s1 x => ?_))
  subst he
  obtain ⟨t, ht, hq⟩ := hbody cdv A outer s H vs Q E hgd (hr.deeper _) hsp
  have I : Inv (cxOf CX0 P w K mg base N qual scope f cdv A outer s H E) [] (L2.start N vs) H s1 := inv_start S hr.hd e0 hl r x
  refine ⟨lim.keeps x.toInCall.keep, codeAny_func (wpAny_mono (ht.run [] s1 (L2.start N vs) H _ I hq) (fun fl s' hs => ?_) fun e s' hs => hs)⟩
  match fl, hs with
  | .ret u, ⟨v, σ', H', J, rv, q⟩ => exact ⟨v, H', J.os, J.bare, J.base, J.hok, rv, q⟩
  | .next, ⟨σ', H', J, q⟩ => exact ⟨.non, H', J.os, J.bare, J.base, J.hok, rfl, q⟩
  | .brk, ⟨_, _, _, q⟩ => exact q.elim
  | .cont, ⟨_, _, _, q⟩ => exact q.elim
end
section
variable {P : Program} {w : World} {K : PySem.W.Frag} {mg mb : Str → Option Value} {k : Nat} {fa a : Addr} {fd : FuncData} {x : Str} {sp : Sp} {s₁ : Shared} {vs : List Value} {ns : List Int}
structure Start (K : PySem.W.Frag) (a : Addr) (o : Obj) (ns : List Int) (H : Hp) : Prop where
  one : ∀ b u, H b = some u → b = a ∧ u = .frz o (.lst (ns.map V.int)) ∧ K.lookup a = none
theorem Start.only {o : Obj} {H : Hp} (S : Start K a o ns H) : Only H := fun b => by
  cases q : H b with
  | none => exact .inl rfl
  | some u => exact .inr ⟨o, _, by rw [(S.one b u q).2.1]⟩
theorem law_runs (KX : K.In s₁.heap) (hns : s₁.heap.Ns mainGlobals mg) (hb : s₁.heap.Ns builtinsNs mb) (hbb : ∀ x : Str, x ≠ "__name__" → mb x = bootBuiltins x) (hlim : s₁.heap.NoLimit) (hg : s₁.gens = #[])
    (ha : s₁.heap.get? a = some { cls := .type "list", data := .seq vs.toArray }) (hi : IntsAre vs ns) (hl : ns.length ≤ sizeLine) (hr : Room k callerA)
    (F : ∀ base : Heap, K.In base → base.Ns mainGlobals mg → FnG P w K mg base k fa fd [x] sp) (hbind : ∀ (s : Shared) (u : Value), BindsTo s fd ⟨[u], []⟩ [(x, u)])
    (hsp : ∀ H : Hp, Only H → SqL K H a (ns.map V.int) → sp [.ref a] H (fun v _ => v = .bl true) fun _ _ _ => False) :
    codeAny (model P w) callerA (.call (.ref fa) ⟨[.ref a], []⟩) (fun r s' => r = .ok (.ret (.bool true)) ∧ OldK s₁.heap s'.heap ∧ s'.os = s₁.os ∧ AllBare s'.gens) s₁ := by
  have rv := vals_ints hi
  have lenV := hi.length
  have core : ∀ H : Hp, Start K a { cls := .type "list", data := .seq vs.toArray } ns H → SqL K H a (ns.map V.int) → codeAny (model P w) callerA (.call (.ref fa) ⟨[.ref a], []⟩) (fun r s' => r = .ok (.ret (.bool true)) ∧ OldK s₁.heap s'.heap ∧ s'.os = s₁.os ∧ AllBare s'.gens) s₁ := by
    intro H S hS
    have hok : HOk P w H s₁.heap := fun b u z => by
      obtain ⟨rfl, rfl, _⟩ := S.one b u z
      exact ⟨ha, by rw [List.length_map]; exact hl, vs, _, rv, ha⟩
    have hid : ∀ {b : Addr} {o : Obj}, s₁.heap.get? b = some o → b ≠ a → (hidT s₁.heap H).get? b = some o := fun {b o} e n => hidT_get e (by
      cases q : H b with
      | none => rfl
      | some u => exact absurd (S.one b u q).1 n)
    have nsH : ∀ {b : Addr} {m : Str → Option Value}, s₁.heap.Ns b m → (hidT s₁.heap H).Ns b m := fun {b m} ⟨o, es, ep, e, d, r⟩ => ⟨o, es, ep, hid e (fun z => by
      subst z
      rw [ha] at e
      cases e
      cases (show Data.seq vs.toArray _ = Data.dict es ep from d)), d, r⟩
    have inH : K.In (hidT s₁.heap H) := fun b o e => hidT_get (KX b o e) (by
      cases q : H b with
      | none => rfl
      | some u =>
        obtain ⟨z, _, n⟩ := S.one b u q
        rw [z, n] at e
        cases e)
    obtain ⟨mc, l1, l2⟩ := hlim
    have e0 : Env0 P w K mg (hidT s₁.heap H) callerA [] s₁ H := ⟨rfl, ⟨inH, nsH hns, ⟨mb, nsH hb, hbb⟩, ⟨mc, nsH l1, l2⟩⟩, fun b o e => of_hidT e, Nat.le_of_eq (hidT_size _ _), trivial, fun b hb => (List.not_mem_nil hb).elim, hok, .of_eq hg⟩
    refine codeAny_mono ((F _ inH (nsH hns)).go callerA [] s₁ H ⟨[.ref a], []⟩ [.ref a] [.ref a] _ _ rfl hr e0 (hbind s₁ (.ref a)) (.cons rfl .nil) (hsp H S.only hS)) fun r s' h => ?_
    match r, h with
    | .ok (.ret u), ⟨v, H', os, bare, un, hok', r', q⟩ =>
      have q' : v = .bl true := q
      subst q'
      obtain rfl : u = Value.bool true := r'
      refine ⟨rfl, OldK.of_keep fun b o e => ?_, os, bare⟩
      cases q : H b with
      | none => exact un.keep b o e q List.not_mem_nil List.not_mem_nil
      | some u =>
        rw [(S.one b u q).2.1] at q
        obtain ⟨e1, _⟩ := hok b _ q
        obtain ⟨e2, _⟩ := hok' b _ (un.frzs b _ _ q)
        rw [e] at e1
        cases e1
        exact e2
    | .error e, h => exact h.elim
    | .ok .next, h => exact h.elim
    | .ok .brk, h => exact h.elim
    | .ok .cont, h => exact h.elim
  cases hk : K.lookup a with
  | some o =>
    have e := (KX a o hk).symm.trans ha
    cases e
    exact core (fun _ => none) ⟨fun b u z => nomatch z⟩ (.inr ⟨_, vs.toArray, _, hk, rfl, rfl, rfl, by rw [List.size_toArray, lenV]; exact hl, by simpa using rv⟩)
  | none =>
    refine core (fun b => if b = a then some (.frz { cls := .type "list", data := .seq vs.toArray } (.lst (ns.map V.int))) else none) ⟨fun b u z => ?_⟩ (.inl (.inr ⟨_, if_pos rfl⟩))
    split at z
    · rename_i hb
      cases z
      exact ⟨hb, rfl, hk⟩
    · cases z
end
theorem walk_G {l : PySem.W.OpenLaw} {n k : Nat} {q : Program} {loose : List Str} {XP : (Str → Option Value) → Heap → Prop} {YP : World → Heap → Prop} {d : DefRec} {x : Str}
    (hn : l.most = some n) (hn2 : n ≤ sizeLine) (hdf : d.params.defaults = []) (hr : Room k callerA)
    (F : ∀ (w : World) (mg : Str → Option Value) (fa : Addr) (h : Heap), YP w h → h.Ns mainGlobals mg → mg d.name = some (.ref fa) →
      ∃ (K : PySem.W.Frag) (fd : FuncData) (sp : Sp), K.In h ∧ (∀ (s : Shared) (u : Value), BindsTo s fd ⟨[u], []⟩ [(x, u)]) ∧
        (∀ (H : Hp) (a : Addr) (ns : List Int), ns.length ≤ n → Only H → SqL K H a (ns.map V.int) → sp [.ref a] H (fun v _ => v = .bl true) fun _ _ _ => False) ∧
        ∀ base : Heap, K.In base → base.Ns mainGlobals mg → FnG l.prog w K mg base k fa fd [x] sp) :
    PySem.W.WalkO q loose XP YP l.row.toRowW d [] (fun f vs => PySem.call f vs) :=
  Att.attach_call hn hdf fun w s₀ s₁ mg mb fa o pm cd doc a vs ns G Y ho hd hcd hmg hobj hints hlen hg =>
    let ⟨_, _, _, KX, hb, hsp, hF⟩ := F w mg fa _ Y G.T.g hmg
    law_runs KX G.T.g G.T.b G.T.builtins G.T.nolimit hg hobj hints (Nat.le_trans hlen hn2) hr hF hb fun H hO hS => hsp H a ns hlen hO hS
end Pi

-- PiSound
set_option maxHeartbeats 4000000
namespace Pi
open PySem PySem.Spec PyProof.Rows L2
def freeNames : List Str := ["len", "abs", "min", "max", "int", "sum", "tuple", "list", "all", "any", "repr", "isinstance", "range", "bool", "str", "enumerate", "zip"]
def CallOk (X : Cx) (R : Rc) (cl : Oracle) (x : Str) (j : Nat) (dv : List D) : Prop := ∃ (k : Nat) (fd : FuncData) (ps : List Str) (ds : List Value) (dvs : List V),
  FnG X.prog X.w X.K X.mg X.base k (R.fa j) fd ps (spO R cl j) ∧ Room k X.A ∧ X.mg x = some (.ref (R.fa j)) ∧ PySem.W.keepIn X.K (.ref (R.fa j)) = true ∧ Binds X.K fd ps ds ∧ Vals dvs ds ∧ ∀ H, Reps R H dvs dv
structure Ok (T : Tab) (N : List Str) (X : Cx) (R : Rc) (cl : Oracle) (sc : Scope) : Prop where
  nm : X.N = N
  nd : N.Nodup
  sc : X.env.scope = sc
  calm : X.calm = true
  K : X.K = R.K
  un : X.A.units + 64 < cLine
  gd : X.A.guards = some []
  held : ∃ k, Room k X.A ∧ ∀ j args y, cl j args = some y → HeldG X.prog X.w X.K X.mg X.base k (R.fa j) (spO R cl j)
  fns : ∀ (x : Str) (n j : Nat) (ms : List Bool) (dv : List D), (j, ms, dv) ∈ T.fn x n → CallOk X R cl x j dv
  cst : ∀ (x : Str) (d : D), T.cst x = some d → ∃ v u, X.mg x = some u ∧ RelV v u ∧ ∀ H, Rep R H v d
  fv : ∀ (x : Str) (j : Nat), T.fv x = some j → X.mg x = some (.ref (R.fa j))
  free : ∀ x ∈ freeNames, X.mg x = none
section
variable {T : Tab} {N : List Str} {X : Cx} {G : Gh} {cl : Oracle} {sc : Scope}
theorem findIdx_at {x : Str} : ∀ {N : List Str} {i : Nat}, N.findIdx? (· == x) = some i → N[i]? = some x := by
  intro N i h
  rw [List.findIdx?_eq_some_iff_getElem] at h
  obtain ⟨hi, h1, _⟩ := h
  rw [List.getElem?_eq_getElem hi]
  exact congrArg some (eq_of_beq h1)
theorem dbg_f {x : Str} (h : dbg x = false) : (x == ("__debug__" : Str)) = false ∧ (x == ("__classdict__" : Str)) = false := by
  unfold dbg at h
  exact Bool.or_eq_false_iff.mp h
theorem slotOf_at {x : Str} {i : Nat} (h : slotOf N sc x = some i) : N[i]? = some x ∧ (sc.names.lookup x = some .local ∨ sc.names.lookup x = some .cell ∨ sc.names.lookup x = some .free) ∧ dbg x = false := by
  unfold slotOf at h
  split at h
  · cases h
  · rename_i hd
    have hd' : dbg x = false := by simpa using hd
    split at h
    · exact ⟨findIdx_at h, .inl (by assumption), hd'⟩
    · exact ⟨findIdx_at h, .inr (.inl (by assumption)), hd'⟩
    · exact ⟨findIdx_at h, .inr (.inr (by assumption)), hd'⟩
    · cases h
theorem pv_of (O : Ok T N X G.toRc cl sc) {x : Str} {i : Nat} {pos : Pos} (h : slotOf N sc x = some i) : PE X (.Name x pos) (tVar i) := by
  obtain ⟨h1, h2, h3⟩ := slotOf_at h
  obtain ⟨d1, d2⟩ := dbg_f h3
  exact pe_var (by rw [O.nm]; exact h1) (by unfold Vis; rw [O.sc]; exact h2) d1 d2
theorem gl_of (O : Ok T N X G.toRc cl sc) {x : Str} (h : globOf sc x = true) : Gl X x ∧ dbg x = false := by
  unfold globOf at h
  rw [Bool.and_eq_true] at h
  refine ⟨?_, by simpa using h.1⟩
  have h2 := h.2
  split at h2
  · rename_i e
    show X.env.scope.names.lookup x = _
    rw [O.sc]
    exact e
  · cases h2
theorem noT {e : Expr} {c : CE} (h : ∀ env, evalT cl c env = none) : PT X e (tT G cl c) := ⟨fun pins s σ H Q I ⟨env, b, env', E, ev, q⟩ => by
  rw [h env] at ev
  cases ev⟩
theorem pt_any (O : Ok T N X G.toRc cl sc) {e : Expr} {c : CE} (h : PE X e (tE G cl c)) (he : ∀ whole, isTrue e X.env whole = (do let v ← whole; standAt e.pos; holding [v] (truthy v))) (hn : byVal c = true ∨ ∀ env, evalT cl c env = none) : PT X e (tT G cl c) := by
  rcases hn with hn | hn
  · exact t_val O.K hn h he
  · exact noT hn
theorem mapEs_ok {f : Expr → Option CE} (hf : ∀ e c, f e = some c → PE X e (tE G cl c)) : ∀ {es : List Expr} {cs : CEs}, mapEs f es = some cs → PA X es (tDs G cl cs) ∧ es.all (fun e => !isStar e) = true
  | [], cs, h => by cases h; exact ⟨c_nil, rfl⟩
  | e :: es, cs, h => by
    unfold mapEs at h
    split at h
    · cases h
    · rename_i hs
      have hs' : isStar e = false := by simpa using hs
      split at h
      · rename_i c cs' h1 h2
        cases h
        obtain ⟨q1, q2⟩ := mapEs_ok hf h2
        exact ⟨c_cons hs' (hf e c h1) q1, by simp [hs', q2]⟩
      · cases h
theorem mapAs_ok (O : Ok T N X G.toRc cl sc) {f : Expr → Option CE} (hf : ∀ e c, f e = some c → PE X e (tE G cl c)) : ∀ {ms : List Bool} {es : List Expr} {cs : CEs}, mapAs f (slotOf N sc) ms es = some cs → PA X es (tAs G cl cs) ∧ es.all (fun e => !isStar e) = true
  | ms, [], cs, h => by
    have : cs = .nil := by
      rw [mapAs] at h
      cases h
      rfl
    subst this
    exact ⟨a_nil, rfl⟩
  | [], e :: es, cs, h => by
    rw [mapAs] at h
    cases h
  | m :: ms, e :: es, cs, h => by
    rw [mapAs] at h
    split at h
    · rename_i c cs' h1 h2
      cases h
      obtain ⟨q1, q2⟩ := mapAs_ok O hf h2
      unfold argOf at h1
      split at h1
      · split at h1
        · rename_i x p
          rw [Option.map_eq_some_iff] at h1
          obtain ⟨i, h3, h4⟩ := h1
          subst h4
          exact ⟨a_io (pv_of O h3) O.K q1, by rw [List.all_cons, q2]; rfl⟩
        · cases h1
      · split at h1
        · cases h1
        · rename_i hs
          have hs' : isStar e = false := by simpa using hs
          split at h1
          · rename_i c' h3
            split at h1
            · cases h1
            · rename_i hio
              cases h1
              exact ⟨a_cons (by simpa using hio) hs' (hf e _ h3) q1, by simp [hs', q2]⟩
          · cases h1
    · cases h
theorem bop_ok (O : Ok T N X G.toRc cl sc) {op : Operator} {o : BOp} (h : bopOf op = some o) : OpR X (binaryOp op) (rB G.toRc o) := by
  cases op <;> cases h
  · exact rb_add O.K
  · exact rb_sub
  · exact rb_mul O.K
  · exact rb_mod
  · exact rb_pow
  · exact rb_fdiv
theorem cop_ok (O : Ok T N X G.toRc cl sc) {op : CmpOp} {o : COp} (h : copOf op = some o) : OpR X (compareOp op) (rC G.toRc o) := by
  cases op <;> cases h
  · exact rc_eq O.K O.un
  · exact rc_ne O.K O.un
  · exact rc_lt O.K (by have := O.un; omega)
  · exact rc_le
  · exact rc_gt
  · exact rc_ge
  · exact rc_in O.K
  · exact rc_nin O.K
theorem boot_all : bootBuiltins "all" = some (.builtin "all") := by decide +kernel
theorem boot_any : bootBuiltins "any" = some (.builtin "any") := by decide +kernel
theorem boot_abs : bootBuiltins "abs" = some (.builtin "abs") := by decide +kernel
theorem boot_rng : bootBuiltins "range" = some (.type "range") := by decide +kernel
theorem bi_ok (O : Ok T N X G.toRc cl sc) {x : Str} {b : BI} (h : biOf x = some b) (hg : Gl X x) {p pos : Pos} {e : Expr} {es : List Expr} (hs : (e :: es).all (fun e => !isStar e) = true) {t : TA} (ha : PA X (e :: es) t) : PE X (.Call (.Name x p) (e :: es) [] pos) (tCB (rBI G.toRc b) t) := by
  rw [List.all_cons, Bool.and_eq_true] at hs
  have hs1 : isStar e = false := by simpa using hs.1
  have he : starEach (e :: es) X.env = (false, eval e X.env) :: starEach es X.env := star_one hs1
  have hpl : (backTo pos (starEach es X.env)).any (·.1) = false := star_any hs.2
  unfold biOf at h
  by_cases h1 : x = "len"
  · subst h1; rw [if_pos rfl] at h; cases h
    exact pe_callB (bi_len O.K) hg (O.free _ (by decide +kernel)) PySem.boot_len ha (by decide) (by decide) he hpl
  rw [if_neg h1] at h
  by_cases h2 : x = "abs"
  · subst h2; rw [if_pos rfl] at h; cases h
    exact pe_callB bi_abs hg (O.free _ (by decide +kernel)) boot_abs ha (by decide) (by decide) he hpl
  rw [if_neg h2] at h
  by_cases h3 : x = "min"
  · subst h3; rw [if_pos rfl] at h; cases h
    exact pe_callB (bi_min O.K O.calm) hg (O.free _ (by decide +kernel)) PyProof.Rows.boot_min ha (by decide) (by decide) he hpl
  rw [if_neg h3] at h
  by_cases h4 : x = "max"
  · subst h4; rw [if_pos rfl] at h; cases h
    exact pe_callB (bi_max O.K O.calm) hg (O.free _ (by decide +kernel)) PyProof.Rows.boot_max ha (by decide) (by decide) he hpl
  rw [if_neg h4] at h
  by_cases h5 : x = "int"
  · subst h5; rw [if_pos rfl] at h; cases h
    exact pe_callTy bi_int hg (O.free _ (by decide +kernel)) PyProof.Rows.boot_int ha (by decide) (by decide) he hpl
  rw [if_neg h5] at h
  by_cases h6 : x = "sum"
  · subst h6; rw [if_pos rfl] at h; cases h
    exact pe_callB (bi_sum O.K O.calm) hg (O.free _ (by decide +kernel)) PyProof.Rows.boot_sum ha (by decide) (by decide) he hpl
  rw [if_neg h6] at h
  by_cases h7 : x = "tuple"
  · subst h7; rw [if_pos rfl] at h; cases h
    exact pe_callTy (bi_tuple O.K) hg (O.free _ (by decide +kernel)) PyProof.Rows.boot_tuple ha (by decide) (by decide) he hpl
  rw [if_neg h7] at h
  by_cases h8 : x = "list"
  · subst h8; rw [if_pos rfl] at h; cases h
    exact pe_callTy (bi_list O.K) hg (O.free _ (by decide +kernel)) PyProof.Rows.boot_list ha (by decide) (by decide) he hpl
  rw [if_neg h8] at h
  by_cases h9 : x = "all"
  · subst h9; rw [if_pos rfl] at h; cases h
    exact pe_callB (bi_all O.K O.calm) hg (O.free _ (by decide +kernel)) boot_all ha (by decide) (by decide) he hpl
  rw [if_neg h9] at h
  by_cases h10 : x = "any"
  · subst h10; rw [if_pos rfl] at h; cases h
    exact pe_callB (bi_any O.K O.calm) hg (O.free _ (by decide +kernel)) boot_any ha (by decide) (by decide) he hpl
  rw [if_neg h10] at h
  by_cases h11 : x = "repr"
  · subst h11; rw [if_pos rfl] at h; cases h
    exact pe_callB (bi_repr O.K O.gd O.un) hg (O.free _ (by decide +kernel)) PyProof.Rows.boot_repr ha (by decide) (by decide) he hpl
  rw [if_neg h11] at h
  cases h
theorem ty_ok (O : Ok T N X G.toRc cl sc) {y : Str} {t : Ty} (h : tyOf y = some t) (hg : Gl X y) {p : Pos} : PE X (.Name y p) (tC (.ty (tyName t))) := by
  unfold tyOf at h
  by_cases h1 : y = "int"
  · subst h1; rw [if_pos rfl] at h; cases h
    exact pe_bltn hg (O.free _ (by decide +kernel)) PyProof.Rows.boot_int rfl
  rw [if_neg h1] at h
  by_cases h2 : y = "bool"
  · subst h2; rw [if_pos rfl] at h; cases h
    exact pe_bltn hg (O.free _ (by decide +kernel)) PyProof.Rows.boot_bool rfl
  rw [if_neg h2] at h
  by_cases h3 : y = "str"
  · subst h3; rw [if_pos rfl] at h; cases h
    exact pe_bltn hg (O.free _ (by decide +kernel)) PyProof.Rows.boot_str rfl
  rw [if_neg h3] at h
  by_cases h4 : y = "tuple"
  · subst h4; rw [if_pos rfl] at h; cases h
    exact pe_bltn hg (O.free _ (by decide +kernel)) PyProof.Rows.boot_tuple rfl
  rw [if_neg h4] at h
  by_cases h5 : y = "list"
  · subst h5; rw [if_pos rfl] at h; cases h
    exact pe_bltn hg (O.free _ (by decide +kernel)) PyProof.Rows.boot_list rfl
  rw [if_neg h5] at h
  cases h
theorem call_ok (O : Ok T N X G.toRc cl sc) {f : Str} {n j : Nat} {ms : List Bool} {dv : List D} (h : (j, ms, dv) ∈ T.fn f n) (hg : globOf sc f = true) {fc : Expr → Option CE} (hf : ∀ e c, fc e = some c → PE X e (tE G cl c)) {e : Expr} {es : List Expr} {cs : CEs} {p pos : Pos}
    (hm : mapAs fc (slotOf N sc) ms (e :: es) = some cs) (hnd : (iosOf cs).Nodup) : PE X (.Call (.Name f p) (e :: es) [] pos) (tE G cl (.call j cs dv)) := by
  obtain ⟨k, fd, ps, ds, dvs, F, hr, hmg, hk, hb, hd, hreps⟩ := O.fns f n j ms dv h
  obtain ⟨q1, q2⟩ := mapAs_ok O hf hm
  rw [List.all_cons, Bool.and_eq_true] at q2
  obtain ⟨g1, g2⟩ := gl_of O hg
  exact c_call hnd hreps (pe_callG F O.gd hr g1 hmg hk hb hd pass0 q1 (dbg_f g2).1 (star_one (by simpa using q2.1)) (star_any q2.2))
end
end Pi

-- PiSound2
set_option maxHeartbeats 4000000
namespace Pi
open PySem PySem.Spec PyProof.Rows L2
structure Gd (X : Cx) (G : Gh) (cl : Oracle) (e : Expr) (c : CE) : Prop where
  pe : PE X e (tE G cl c)
  pt : PT X e (tT G cl c)
  pw : ∀ op es pos, e = .BoolOp op es pos → PW X e (tT G cl c)
def noBool : Expr → Bool
  | .BoolOp .. => false
  | _ => true
section
variable {T : Tab} {N : List Str} {X : Cx} {G : Gh} {cl : Oracle} {sc : Scope} {f : Expr → Option CE}
theorem c1_inv {g : CE → CE} {a : Expr} {c : CE} (h : c1 f g a = some c) : ∃ ca, f a = some ca ∧ c = g ca := by
  unfold c1 at h
  split at h
  · cases h; exact ⟨_, by assumption, rfl⟩
  · cases h
theorem c2_inv {g : CE → CE → CE} {a b : Expr} {c : CE} (h : c2 f g a b = some c) : ∃ ca cb, f a = some ca ∧ f b = some cb ∧ c = g ca cb := by
  unfold c2 at h
  split at h
  · cases h; exact ⟨_, _, by assumption, by assumption, rfl⟩
  · cases h
theorem c3_inv {g : CE → CE → CE → CE} {a b d : Expr} {c : CE} (h : c3 f g a b d = some c) : ∃ ca cb cd, f a = some ca ∧ f b = some cb ∧ f d = some cd ∧ c = g ca cb cd := by
  unfold c3 at h
  split at h
  · cases h; exact ⟨_, _, _, by assumption, by assumption, by assumption, rfl⟩
  · cases h
theorem Gd.mk' {e : Expr} {c : CE} (h : PE X e (tE G cl c)) (t : PT X e (tT G cl c)) (hb : noBool e = true := by rfl) : Gd X G cl e c :=
  ⟨h, t, fun op es pos he => by subst he; cases hb⟩
abbrev HF (X : Cx) (G : Gh) (cl : Oracle) (f : Expr → Option CE) : Prop := ∀ e c, f e = some c → Gd X G cl e c
theorem vals {H : HF X G cl f} : ∀ e c, f e = some c → PE X e (tE G cl c) := fun e c h => (H e c h).pe
theorem nameG (O : Ok T N X G.toRc cl sc) {x : Str} {p : Pos} {c : CE} (h : cName T N sc x = some c) : Gd X G cl (.Name x p) c := by
  unfold cName at h
  split at h
  · rename_i i hi
    cases h
    obtain ⟨h1, h2, h3⟩ := slotOf_at hi
    obtain ⟨d1, d2⟩ := dbg_f h3
    exact .mk' (c_var (by rw [O.nm]; exact h1) (by unfold Vis; rw [O.sc]; exact h2) d1 d2) (t_var O.K (pv_of O hi)) rfl
  · split at h
    · rename_i hg
      obtain ⟨g1, g2⟩ := gl_of O hg
      obtain ⟨d1, d2⟩ := dbg_f g2
      split at h
      · rename_i d hd
        cases h
        obtain ⟨v, u, hm, hr, hp⟩ := O.cst _ _ hd
        exact .mk' (c_gc (pe_glob g1 hm hr d1) hp) (noT fun env => by rw [evalT] <;> simp) rfl
      · split at h
        · rename_i j hj
          cases h
          exact .mk' (c_gf (pe_glob (v := .ref (G.fa j)) g1 (O.fv _ _ hj) rfl d1) (fun H => rfl)) (noT fun env => by rw [evalT] <;> simp) rfl
        · cases h
    · cases h
theorem constG {k : Const} {n : Nat} {p : Pos} {c : CE} (h : cConst k = some c) : Gd X G cl (.Constant k n p) c := by
  cases k <;> cases h
  · exact .mk' (c_cst pe_non fun H => rfl) (noT fun env => by rw [evalT] <;> simp)
  · exact .mk' (c_cst pe_bl fun H => rfl) t_true
  · exact .mk' (c_cst pe_int fun H => rfl) (noT fun env => by rw [evalT] <;> simp)
  · exact .mk' (c_cst pe_str fun H => rfl) (noT fun env => by rw [evalT] <;> simp)
theorem unG (O : Ok T N X G.toRc cl sc) (H : HF X G cl f) {op : UnaryOp} {a : Expr} {p : Pos} {c : CE} (h : cUn f op a = some c) : Gd X G cl (.UnaryOp op a p) c := by
  cases op <;> try cases h
  · obtain ⟨ca, h1, rfl⟩ := c1_inv h
    exact .mk' (c_not O.K (H _ _ h1).pe) (t_not (H _ _ h1).pt)
  · obtain ⟨ca, h1, rfl⟩ := c1_inv h
    exact .mk' (c_neg (H _ _ h1).pe) (t_val O.K rfl (c_neg (H _ _ h1).pe) fun _ => rfl)
theorem binG (O : Ok T N X G.toRc cl sc) (H : HF X G cl f) {op : Operator} {a b : Expr} {p : Pos} {c : CE} (h : cBin f op a b = some c) : Gd X G cl (.BinOp a op b p) c := by
  unfold cBin at h
  split at h
  · rename_i o ho
    obtain ⟨ca, cb, h1, h2, rfl⟩ := c2_inv h
    have q := c_bin (pos := p) (bop_ok O ho) (H _ _ h1).pe (H _ _ h2).pe
    exact .mk' q (t_val O.K rfl q fun _ => rfl)
  · cases h
theorem noneE_is {b : Expr} (h : noneE b = true) : ∃ k p, b = .Constant .none k p := by
  unfold noneE at h
  split at h
  · exact ⟨_, _, rfl⟩
  · cases h
theorem cmpG (O : Ok T N X G.toRc cl sc) (H : HF X G cl f) {a : Expr} {ops : List CmpOp} {bs : List Expr} {p : Pos} {c : CE} (h : cCompare f a ops bs = some c) : Gd X G cl (.Compare a ops bs p) c := by
  unfold cCompare at h
  split at h
  · rename_i op b
    unfold cCmp1 at h
    split at h
    · split at h
      · rename_i hn
        obtain ⟨k, p', rfl⟩ := noneE_is hn
        obtain ⟨ca, h1, rfl⟩ := c1_inv h
        exact .mk' (c_isN (H _ _ h1).pe) (t_isN (pt_cmp (pc_isN (pe_val (H _ _ h1).pe)) rfl))
      · cases h
    · split at h
      · rename_i hn
        obtain ⟨k, p', rfl⟩ := noneE_is hn
        obtain ⟨ca, h1, rfl⟩ := c1_inv h
        exact .mk' (c_notN (H _ _ h1).pe) (t_isN (pt_cmp (pc_notN (pe_val (H _ _ h1).pe)) rfl))
      · cases h
    · split at h
      · cases h
      · rename_i hm
        split at h
        · rename_i o ho
          obtain ⟨ca, cb, h1, h2, rfl⟩ := c2_inv h
          have hm' : behindInMarks op b = false := by simpa using hm
          exact .mk' (c_cmp (cop_ok O ho) hm' (H _ _ h1).pe (H _ _ h2).pe) (t_cmp (cop_ok O ho) hm' (H _ _ h1).pe (H _ _ h2).pe)
        · cases h
  · rename_i op op' b d
    unfold cCmp2 at h
    split at h
    · cases h
    · rename_i hm
      have hm' : lastMarks [op, op'] [b, d] = false := by simpa using hm
      split at h
      · rename_i o o' ho ho'
        obtain ⟨ca, cb, cd, h1, h2, h3, rfl⟩ := c3_inv h
        have q := pe_chain (pos := p) (cop_ok O ho) (cop_ok O ho') (pe_val (H _ _ h1).pe) (pe_val (H _ _ h2).pe) (pe_val (H _ _ h3).pe) hm'
        exact .mk' (c_chain (cop_ok O ho) (cop_ok O ho') hm' (H _ _ h1).pe (H _ _ h2).pe (H _ _ h3).pe q) (t_chain (pt_chain (cop_ok O ho) (cop_ok O ho') (pe_val (H _ _ h1).pe) (pe_val (H _ _ h2).pe) (pe_val (H _ _ h3).pe) hm'))
      · cases h
  · cases h
end
end Pi

-- PiSound3
set_option maxHeartbeats 4000000
namespace Pi
open PySem PySem.Spec PyProof.Rows L2
section
variable {T : Tab} {N : List Str} {X : Cx} {G : Gh} {cl : Oracle} {sc : Scope} {f : Expr → Option CE}
theorem boolG (O : Ok T N X G.toRc cl sc) (H : HF X G cl f) {op : BoolOp} {es : List Expr} {p : Pos} {c : CE} (h : cBool f op es p = some c) : Gd X G cl (.BoolOp op es p) c := by
  unfold cBool at h
  split at h
  · cases h
  · rename_i a
    have q : PW X (.BoolOp op [a] p) (tT G cl c) := by
      cases op
      · exact pw_and1 (H _ _ h).pt
      · exact pw_or1 (H _ _ h).pt
    exact ⟨c_one (H _ _ h).pe, q.pt, fun _ _ _ e => by cases e; exact q⟩
  · rename_i a b r
    cases op
    · obtain ⟨ca, cb, h1, h2, rfl⟩ := c2_inv h
      have q := t_and (pos := p) (H _ _ h1).pt ((H _ _ h2).pw _ _ _ rfl)
      exact ⟨c_and (H _ _ h1).pe (H _ _ h2).pe, q.pt, fun _ _ _ e => by cases e; exact q⟩
    · obtain ⟨ca, cb, h1, h2, rfl⟩ := c2_inv h
      have q := t_or (pos := p) (H _ _ h1).pt ((H _ _ h2).pw _ _ _ rfl)
      exact ⟨c_or (H _ _ h1).pe (H _ _ h2).pe, q.pt, fun _ _ _ e => by cases e; exact q⟩
theorem ifeG (H : HF X G cl f) {t a b : Expr} {p : Pos} {c : CE} (h : c3 f .ife t a b = some c) : Gd X G cl (.IfExp t a b p) c := by
  obtain ⟨ca, cb, cd, h1, h2, h3, rfl⟩ := c3_inv h
  exact .mk' (c_ife (H _ _ h1).pt (H _ _ h2).pe (H _ _ h3).pe) (noT fun env => by rw [evalT] <;> simp)
theorem tupG (H : HF X G cl f) {es : List Expr} {k : Nat} {p : Pos} {cs : CEs} (h : mapEs f es = some cs) : Gd X G cl (.Tuple es k p) (.tup cs) :=
  .mk' (c_tup (mapEs_ok (vals (H := H)) h).1) (noT fun env => by rw [evalT] <;> simp)
theorem lstG (H : HF X G cl f) {es : List Expr} {p : Pos} {cs : CEs} (h : mapEs f es = some cs) : Gd X G cl (.List es p) (.lst cs) :=
  .mk' (c_lst (mapEs_ok (vals (H := H)) h).1) (noT fun env => by rw [evalT] <;> simp)
theorem slicer_ok (H : HF X G cl f) {o : Option Expr} {c : CE} (h : slicerOf f o = some c) : PO X o (tP G cl c) := by
  cases o with
  | none => cases h; exact p_none
  | some e => exact p_some (H _ _ h).pe
theorem slG (O : Ok T N X G.toRc cl sc) (H : HF X G cl f) {v : Expr} {lo hi : Option Expr} {p2 p : Pos} {c : CE} (h : cSl N sc f v lo hi = some c) : Gd X G cl (.Subscript v (.Slice lo hi none p2) p) c := by
  unfold cSl at h
  split at h
  · rename_i l hh h1 h2
    have gen : ∀ {v : Expr} {c' : CE}, f v = some c' → Gd X G cl (.Subscript v (.Slice lo hi none p2) p) (.sl c' l hh) := fun hv =>
      .mk' (c_sl O.K (H _ _ hv).pe (slicer_ok H h1) (slicer_ok H h2)) (noT fun env => by rw [evalT] <;> simp)
    split at h
    · split at h
      · rename_i k hk
        cases h
        exact .mk' (c_slv O.K (pv_of O hk) (slicer_ok H h1) (slicer_ok H h2)) (noT fun env => by rw [evalT] <;> simp)
      · split at h
        · cases h
          exact gen (by assumption)
        · cases h
    · split at h
      · cases h
        exact gen (by assumption)
      · cases h
  · cases h
theorem ixG (O : Ok T N X G.toRc cl sc) (H : HF X G cl f) {v i : Expr} {p : Pos} {c : CE} (h : cIx N sc f v i = some c) : Gd X G cl (.Subscript v i p) c := by
  unfold cIx at h
  split at h
  · rename_i hn
    have gen : ∀ {v : Expr} {c : CE}, c2 f .ix v i = some c → Gd X G cl (.Subscript v i p) c := fun hv => by
      obtain ⟨ca, cb, h1, h2, rfl⟩ := c2_inv hv
      have q := c_ix (pos := p) O.K hn (H _ _ h1).pe (H _ _ h2).pe
      exact .mk' q (t_val O.K rfl q fun _ => rfl)
    split at h
    · rename_i x px
      split at h
      · rename_i k hk
        obtain ⟨ca, h1, rfl⟩ := c1_inv h
        have q := c_ixv (pos := p) O.K hn (pv_of (pos := px) O hk) (H _ _ h1).pe
        exact .mk' q (t_val O.K rfl q fun _ => rfl)
      · exact gen h
    · exact gen h
  · cases h
theorem isM1_is {e : Expr} (h : isM1 e = true) : ∃ k p1 p2, e = .UnaryOp .USub (.Constant (.int 1) k p1) p2 := by
  unfold isM1 at h
  split at h
  · have e := of_decide_eq_true h
    subst e
    exact ⟨_, _, _, rfl⟩
  · cases h
theorem subG (O : Ok T N X G.toRc cl sc) (H : HF X G cl f) {v i : Expr} {p : Pos} {c : CE} (h : cSub N sc f v i = some c) : Gd X G cl (.Subscript v i p) c := by
  unfold cSub at h
  split at h
  · split at h
    · rename_i hm
      obtain ⟨k, p1, p2, rfl⟩ := isM1_is hm
      obtain ⟨ca, h1, rfl⟩ := c1_inv h
      exact .mk' (c_rev O.K (H _ _ h1).pe) (noT fun env => by rw [evalT] <;> simp)
    · cases h
  · exact slG O H h
  · exact ixG O H h
theorem biG (O : Ok T N X G.toRc cl sc) (H : HF X G cl f) {x : Str} {b : BI} {p pos : Pos} {a : Expr} {r : List Expr} {c : CE} (hb : biOf x = some b) (hg : Gl X x) (h : cBi f b a r = some c) : Gd X G cl (.Call (.Name x p) (a :: r) [] pos) c := by
  unfold cBi at h
  split at h
  · rename_i cs hm
    cases h
    obtain ⟨q1, q2⟩ := mapEs_ok (vals (H := H)) hm
    have q := c_bi (fun h => bi_ok (p := p) (pos := pos) O hb hg q2 h) q1
    exact .mk' q (t_val O.K rfl q fun _ => rfl)
  · cases h
theorem fnG (O : Ok T N X G.toRc cl sc) (H : HF X G cl f) {x : Str} {p pos : Pos} {a : Expr} {r : List Expr} {c : CE} (hg : globOf sc x = true) (h : cFn T N sc f x a r = some c) : Gd X G cl (.Call (.Name x p) (a :: r) [] pos) c := by
  obtain ⟨g1, g2⟩ := gl_of O hg
  unfold cFn at h
  split at h
  · rename_i hx
    subst hx
    split at h
    · rename_i y
      unfold cIsi at h
      split at h
      · rename_i y p1
        split at h
        · rename_i hc
          rw [Bool.and_eq_true] at hc
          split at h
          · rename_i c' t h1 h2
            cases h
            have hs : isStar a = false := by simpa using hc.2
            have q := c_isi (p := p) (p1 := p1) (pos := pos) O.K (H _ _ h1).pe (ty_ok O h2 (gl_of O hc.1).1) (fun hr ha => pe_callB hr g1 (O.free _ (by decide +kernel)) PyProof.Rows.boot_isinstance ha (by decide) (by decide) (star_one hs) (by rfl)) hs
            exact .mk' q (t_val O.K rfl q fun _ => rfl)
          · cases h
        · cases h
      · cases h
    · cases h
  · split at h
    · rename_i b hb
      split at h
      · rename_i hl
        rw [Bool.and_eq_true] at hl
        obtain ⟨hl1, hl2⟩ := hl
        have hx : x = "len" := by simpa using hl1
        subst hx
        have hr : r = [] := by simpa using hl2
        subst hr
        split at h
        · rename_i c' hc
          cases h
          unfold cLen at hc
          split at hc
          · rename_i y py
            split at hc
            · rename_i k hk
              cases hc
              have q := c_lenv (x := y) (p1 := py) (X := X) (G := G) (cl := cl) (p := p) (pos := pos) O.K (fun {t r} hr hp => pe_callB hr g1 (O.free _ (by decide +kernel)) PySem.boot_len (pa_cons hp pa_nil (by rfl)) (by decide) (by decide) (by rfl) (by rfl)) (pv_of O hk)
              exact .mk' q (noT fun env => by rw [evalT] <;> simp)
            · cases hc
          · cases hc
        · exact biG O H hb g1 h
      · exact biG O H hb g1 h
    · unfold cDef at h
      obtain ⟨pp, hf, h⟩ := List.exists_of_findSome?_eq_some h
      unfold tryDef at h
      split at h
      · rename_i cs hm
        split at h
        · rename_i hnd
          cases h
          have q := call_ok (p := p) (pos := pos) O hf hg (fun e c h => (H e c h).pe) hm hnd
          exact .mk' q (t_val O.K rfl q fun _ => rfl)
        · cases h
      · cases h
theorem locG (O : Ok T N X G.toRc cl sc) (H : HF X G cl f) {x : Str} {args : List Expr} {p pos : Pos} {c : CE} (h : cLoc N sc f x args = some c) : Gd X G cl (.Call (.Name x p) args [] pos) c := by
  unfold cLoc at h
  split at h
  · rename_i i a r hi
    split at h
    · rename_i cs hm
      split at h
      · rename_i hnd
        cases h
        obtain ⟨q1, q2⟩ := mapAs_ok O (fun e c h => (H e c h).pe) hm
        rw [List.all_cons, Bool.and_eq_true] at q2
        obtain ⟨h1, h2, h3⟩ := slotOf_at hi
        obtain ⟨d1, d2⟩ := dbg_f h3
        obtain ⟨k, hr, hh⟩ := O.held
        have q := c_callv (G := G) (cl := cl) (p := p) (pos := pos) hnd (pe_callV (S := fun f sp => ∃ j args y, f = G.fa j ∧ cl j args = some y ∧ sp = spO G.toRc cl j) (fun f sp ⟨j, args, y, e1, e2, e3⟩ => by rw [e1, e3]; exact hh j args y e2) O.gd hr (by rw [O.nm]; exact h1) (by unfold Vis; rw [O.sc]; exact h2) q1 pass0 d1 d2 (star_one (by simpa using q2.1)) (star_any q2.2))
        exact .mk' q (noT fun env => by rw [evalT] <;> simp)
      · cases h
    · cases h
  · cases h
theorem callG (O : Ok T N X G.toRc cl sc) (H : HF X G cl f) {g : Expr} {args : List Expr} {pos : Pos} {c : CE} (h : cCall T N sc f g args pos = some c) : Gd X G cl (.Call g args [] pos) c := by
  unfold cCall at h
  split at h
  · split at h
    · rename_i hg
      split at h
      · exact fnG O H hg h
      · cases h
    · exact locG O H h
  · unfold cMeth at h
    split at h
    · split at h
      · rename_i hm
        rw [Bool.and_eq_true] at hm
        obtain ⟨hm1, hm2⟩ := hm
        split at h
        · rename_i k hk
          cases h
          have e := of_decide_eq_true hm1
          subst e
          exact .mk' (c_pop (pv_of O hk) (by rfl) hm2) (noT fun env => by rw [evalT] <;> simp)
        · cases h
      · cases h
    · cases h
  · cases h
end
end Pi

-- PiSound4
set_option maxHeartbeats 4000000
namespace Pi
open PySem PySem.Spec PyProof.Rows L2
section
variable {T : Tab} {N : List Str} {X : Cx} {G : Gh} {cl : Oracle} {sc : Scope} {f : Expr → Option CE}
structure Sets (X : Cx) (sc' : Scope) : Prop where
  loc : ∀ x, sc'.names.lookup x = some .local → X.env.scope.names.lookup x = some .local
  cell : ∀ x, sc'.names.lookup x = some .cell → X.env.scope.names.lookup x = some .cell ∧ X.fn x = true
theorem ownIx_ok (hN : X.N.Nodup) {sc' : Scope} (S : Sets X sc') {x : Str} {i : Nat} {p : Pos} (h : ownIx X.N sc' x = some i) : PG X (.Name x p) (gName i) ∧ X.N[i]? = some x := by
  unfold ownIx at h
  split at h
  · split at h
    · cases h
    · rename_i hl _
      exact ⟨pg_name hN (findIdx_at h) (.inl (S.loc _ hl)) (.inr (S.loc _ hl)), findIdx_at h⟩
  · split at h
    · cases h
    · rename_i hl _
      exact ⟨pg_name hN (findIdx_at h) (.inr (S.cell _ hl).1) (.inl (S.cell _ hl).2), findIdx_at h⟩
  · cases h
theorem nms_ok (hN : X.N.Nodup) {sc' : Scope} (S : Sets X sc') : ∀ {es : List Expr} {is : List Nat}, nmsOf X.N sc' es = some is → PGs X es (tGs G is) ∧ (assignEach es X.env).length = is.length ∧ (assignEach es X.env).findIdx? (·.1) = none
  | [], is, h => by cases h; exact ⟨gs_nil, rfl, rfl⟩
  | e :: es, is, h => by
    unfold nmsOf at h
    split at h
    · rename_i x; cases x
    · rename_i x p es' heq
      cases heq
      split at h
      · rename_i i is' h1 h2
        cases h
        obtain ⟨q1, q2, q3⟩ := nms_ok hN S h2
        refine ⟨gs_cons (ownIx_ok hN S h1).1 q1, ?_, ?_⟩
        · show (assignEach es X.env).length + 1 = _
          rw [q2]; rfl
        · rw [show assignEach (.Name x p :: es) X.env = (false, assign (.Name x p) X.env) :: assignEach es X.env from rfl, List.findIdx?_cons, q3]
          rfl
      · cases h
    · cases h
theorem tg_ok (hN : X.N.Nodup) (hK : X.K = G.toRc.K) (hc : X.calm = true) {sc' : Scope} (S : Sets X sc') {e : Expr} {t : Tg} (h : tgOf X.N sc' e = some t) : PG X e (tG G t) := by
  unfold tgOf at h
  split at h
  · split at h
    · cases h
      rename_i hi
      exact g_nm (ownIx_ok hN S hi).1
    · cases h
  · split at h
    · cases h
      rename_i hi
      obtain ⟨q1, q2, q3⟩ := nms_ok (G := G) hN S hi
      exact g_tp hK hc q1 q2 q3
    · cases h
  · cases h
theorem div_le_self' {x c : Int} (hc : 0 < c) (hx : x ≤ 2 ^ 40) : x / c ≤ 2 ^ 40 := by
  by_cases h : 0 ≤ x
  · exact Int.le_trans (Int.ediv_le_self _ h) hx
  · have : x / c < 0 := Int.ediv_neg_of_neg_of_pos (by omega) hc
    omega
theorem small_up {i j c : Int} (hi : Small i) (hj : Small j) (hs : j - i ≤ sizeLine) (hc : 0 < c) (hc' : c < 1073741824) : Builtin.Range.small i j c = true ∧ Builtin.Range.rangeSize i j c = (((j - i + c - 1) / c).toNat : Int) := by
  obtain ⟨h1, h2⟩ := hi
  obtain ⟨h3, h4⟩ := hj
  have hsz : (sizeLine : Int) = 2 ^ 24 := by decide
  rw [hsz] at hs
  have e : Builtin.Range.rangeSize i j c = (((j - i + c - 1) / c).toNat : Int) := by
    unfold Builtin.Range.rangeSize
    rw [if_pos hc]
    split
    · rename_i hl
      have e1 : j - i + c - 1 = (j - i - 1) + 1 * c := by omega
      rw [e1, Int.add_mul_ediv_right _ _ (by omega)]
      have : 0 ≤ (j - i - 1) / c := Int.ediv_nonneg (by omega) (by omega)
      omega
    · rename_i hl
      have : (j - i + c - 1) / c < 1 := by
        rw [Int.ediv_lt_iff_lt_mul hc]; omega
      omega
  refine ⟨?_, e⟩
  unfold Builtin.Range.small
  rw [e]
  have b : (j - i + c - 1) / c ≤ 2 ^ 40 := div_le_self' hc (by omega)
  simp only [Builtin.Range.rangeFitsLong, Bool.and_eq_true, Bool.or_eq_true, decide_eq_true_eq, beq_iff_eq, if_pos hc]
  omega
theorem rs_len {i j c : Int} (z3 : j - i ≤ sizeLine) (z4 : 0 < c) : ((j - i + c - 1) / c).toNat ≤ sizeLine := by
  have hsz : (sizeLine : Int) = 2 ^ 24 := by decide
  rw [hsz] at z3
  have b : (j - i + c - 1) / c ≤ 2 ^ 24 := by
    by_cases h0 : 0 < j - i
    · have e1 : j - i + c - 1 = (j - i - 1) + 1 * c := by omega
      rw [e1, Int.add_mul_ediv_right _ _ (by omega)]
      have := Int.ediv_le_self c (show 0 ≤ j - i - 1 by omega)
      omega
    · have : (j - i + c - 1) / c < 1 := by
        rw [Int.ediv_lt_iff_lt_mul z4]; omega
      omega
  have hn : sizeLine = 2 ^ 24 := by decide
  rw [hn]
  omega
theorem rs_get {i c : Int} {n k : Nat} (h : k < n) : ((List.range n).map fun (k : Nat) => D.int (i + k * c))[k]? = some (.int (i + (k : Int) * c)) := by
  rw [List.getElem?_map, List.getElem?_range h]
  rfl
theorem wk_rangeC {R : Rc} {lo c : Int} {n : Nat} {H : Hp} : Wk R (Itc lo c n) ((List.range n).map fun (k : Nat) => D.int (lo + k * c)) H := by
  refine ⟨fun i H1 k hi => (by simpa using hi : i < n), fun H1 k => by rw [List.length_map, List.length_range]; exact Nat.le_refl n, fun i H1 x H2 k hi y => ?_⟩
  obtain ⟨rfl, rfl⟩ := y
  exact ⟨Ext.refl _, _, rs_get (by simpa using hi), rep_int.mpr rfl⟩
theorem i_rg3 {tg a b d : Expr} {c c' c'' : CE} {p pos : Pos} (hg : Gl X "range") (hm : X.mg "range" = none) (hs : isStar a = false) (hs' : isStar b = false) (hs'' : isStar d = false) (ha : PE X a (tE G cl c)) (hb : PE X b (tE G cl c')) (hd : PE X d (tE G cl c'')) : PI X tg (.Call (.Name "range" p) [a, b, d] [] pos) (tI G cl (.rg3 c c' c'')) :=
  pi_imp (pi_range3 hg hm (pa_cons (pe_val ha) (pa_cons (pe_val hb) (pa_cons (pe_val hd) pa_nil (star_one hs'')) (star_one hs')) (star_one hs)) (by rw [star_one hs]) (by rw [star_one hs', star_one hs'']; rfl)) fun σ H R ⟨env, xs, env', E, ev, q⟩ => by
    rw [evalI] at ev
    obtain ⟨s1, x, e1, ev1, d1, ev⟩ := bindV_some ev
    obtain ⟨s2, y, e2, ev2, d2, ev⟩ := bindV_some ev
    obtain ⟨s3, z, e3, ev3, d3, ev⟩ := bindV_some ev
    cases x <;> cases y <;> cases z <;> try (cases (show (none : Option (List D × En)) = some (xs, env') from ev))
    simp only at ev
    obtain ⟨ds, hr, e⟩ := map_some' ev
    cases e
    unfold rangeStep at hr
    split at hr
    · rename_i hz
      cases hr
      obtain ⟨z1, z2, z3, z4, z5⟩ := hz
      obtain ⟨w1, w2⟩ := small_up z1 z2 z3 z4 z5
      refine ⟨env, s1, _, _, E, ev1, d1, fun v H1 p1 r1 => ?_⟩
      refine ⟨e1, s2, _, _, p1.ok, ev2, d2, fun w H2 p2 r2 => ?_⟩
      refine ⟨e2, s3, _, _, p2.ok, ev3, d3, fun w' H3 p3 r3 => ?_⟩
      refine ⟨_, _, _, _, by rw [rep_int.mp r1, rep_int.mp r2, rep_int.mp r3], ⟨by omega, by omega, w1, w2⟩, q _ H3 ((p1.trans p2).trans p3) wk_rangeC ?_⟩
      rw [List.length_map, List.length_range]
      exact rs_len z3 z4
    · cases hr
theorem noSet_fold {e : Expr} {env : PySem.Env} (h : noSet e = true) : ∀ x, foldedSetIterable e env x = pure x := by
  intro x
  cases e <;> first | rfl | cases h
theorem iter_ok (O : Ok T N X G.toRc cl sc) (H : HF X G cl f) {tg e : Expr} {c : CI} (h : iterOf sc f e = some c) : PI X tg e (tI G cl c) := by
  have i1_ok : ∀ {e : Expr} {c : CI}, i1 f .sq e = some c → PI X tg e (tI G cl c) := fun h => by
    unfold i1 at h
    split at h
    · cases h
      exact i_sq O.K (H _ _ (by assumption)).pe
    · cases h
  unfold iterOf at h
  split at h
  · rename_i x p args pos
    split at h
    · rename_i hx
      rw [Bool.and_eq_true] at hx
      obtain ⟨hx1, hx2⟩ := hx
      have e := of_decide_eq_true hx1
      subst e
      obtain ⟨g1, g2⟩ := gl_of O hx2
      have hm := O.free ("range" : Str) (by decide +kernel)
      unfold iRange at h
      split at h
      · split at h
        · cases h
        · rename_i hs
          unfold i1 at h
          split at h
          · cases h
            exact i_rg1 g1 hm (by simpa using hs) (H _ _ (by assumption)).pe
          · cases h
      · split at h
        · cases h
        · rename_i hs
          simp only [Bool.or_eq_true, not_or, Bool.not_eq_true] at hs
          split at h
          · cases h
            exact i_rg2 g1 hm hs.1 hs.2 (H _ _ (by assumption)).pe (H _ _ (by assumption)).pe
          · cases h
      · split at h
        · cases h
        · rename_i hs
          simp only [Bool.or_eq_true, not_or, Bool.not_eq_true] at hs
          split at h
          · cases h
            exact i_rg3 g1 hm hs.1.1 hs.1.2 hs.2 (H _ _ (by assumption)).pe (H _ _ (by assumption)).pe (H _ _ (by assumption)).pe
          · cases h
      · cases h
    · exact i1_ok h
  · split at h
    · exact i1_ok h
    · cases h
theorem relS_at {scope sc : Scope} {x : Str} {k : NameKind} (hk : k ≠ .free) (h : scope.names.lookup x = some k) : (relS scope sc).names.lookup x = some k := by
  show List.lookup x (scope.names.map fun (p : Str × NameKind) => if (p.2 == .free && sc.kind == .function && sc.names.lookup p.1 == some .cell) then (p.1, NameKind.cell) else (p.1, p.2)) = some k
  generalize scope.names = l at h
  induction l with
  | nil => cases h
  | cons p l ih =>
    obtain ⟨n, k'⟩ := p
    rw [List.lookup_cons] at h
    rw [List.map_cons]
    by_cases hx : (x == n) = true
    · rw [hx] at h
      cases h
      have : (k == NameKind.free) = false := by cases k <;> first | rfl | exact absurd rfl hk
      simp only [this, Bool.false_and]
      rw [if_neg Bool.false_ne_true, List.lookup_cons, hx]
    · have hx' : (x == n) = false := by simpa using hx
      rw [hx'] at h
      split <;> (rw [List.lookup_cons, hx']; exact ih h)
theorem Ok.blk (O : Ok T N X G.toRc cl sc) (s : Shared) (H : Hp) (scope : Scope) (C : Addr) (cs : List (Str × Addr)) (fp : List Addr) : Ok T N (X.blk s H scope (compEnvC scope cs C X.env) fp) G.toRc cl (relS scope sc) where
  nm := O.nm
  nd := O.nd
  sc := by rw [← O.sc]; rfl
  calm := O.calm
  K := O.K
  un := O.un
  gd := O.gd
  held := O.held
  fns := O.fns
  cst := O.cst
  fv := O.fv
  free := O.free
theorem sets_blk (s : Shared) (H : Hp) (scope : Scope) (C : Addr) (cs : List (Str × Addr)) (fp : List Addr) : Sets (X.blk s H scope (compEnvC scope cs C X.env) fp) scope where
  loc := fun x h => relS_at (sc := X.env.scope) (fun h => nomatch h) h
  cell := fun x h => ⟨relS_at (sc := X.env.scope) (fun h => nomatch h) h, by
    show (scope.names.lookup x == some .cell) = true
    rw [h]; rfl⟩
theorem lcG {f : Scope → Expr → Option CE} (O : Ok T N X G.toRc cl sc) (H : ∀ (X : Cx) (sc : Scope), Ok T N X G.toRc cl sc → HF X G cl (f sc)) {elt : Expr} {g : Comprehension} {scope : Scope} {p : Pos} {c : CE} (h : cLc N f sc elt scope g = some c) : Gd X G cl (.ListComp elt [g] scope p) c := by
  unfold cLc at h
  split at h
  rename_i tg iter ifs k
  split at h
  · rename_i hc
    rw [Bool.and_eq_true, Bool.and_eq_true] at hc
    obtain ⟨⟨hk, hs⟩, hb⟩ := hc
    have hk := of_decide_eq_true hk
    subst hk
    split at h
    · rename_i ci t ce cc h1 h2 h3 h4
      split at h
      · rename_i hv
        cases h
        have hv' : ∀ j ∈ t.vars, j ∈ (ownOf N scope).map (·.2) := fun j hj => by
          have := List.all_eq_true.mp hv j hj
          simpa using this
        have ok : BlkOk X.N X.env.scope scope (ownOf N scope) := by
          rw [O.nm, O.sc]
          exact blkOk_by hb
        have hts : ∀ (s : Shared) (H' : Hp) (C : Addr) (cs : List (Str × Addr)) (fp : List Addr), PTs (X.blk s H' scope (compEnvC scope cs C X.env) fp) ifs (tT G cl cc) := fun s H' C cs fp => by
          unfold condOf at h4
          split at h4
          · cases h4
            exact ts_nil (b := .Constant (.bool true) 0 p)
          · exact pts_one (H _ _ (O.blk s H' scope C cs fp) _ _ h4).pt
          · cases h4
        refine .mk' ?_ (noT fun env => by rw [evalT] <;> simp)
        exact ⟨fun pins s σ H' Q I q => (pe_lc (wi := tI G cl ci) (g := tG G t) (tt := tT G cl cc) (te := tV G cl ce) O.calm (by rw [O.nm]; exact O.nd) (iter_ok O (H _ _ O) h1) ok
          (fun s H' C cs fp => tg_ok (X := X.blk s H' scope (compEnvC scope cs C X.env) fp) (by rw [(O.blk s H' scope C cs fp).nm]; exact O.nd) O.K O.calm (sets_blk s H' scope C cs fp) (by rw [(O.blk s H' scope C cs fp).nm]; exact h2)) hts
          (fun s H' C cs fp => pe_val (H _ _ (O.blk s H' scope C cs fp) _ _ h3).pe) (noSet_fold hs)).run pins s σ H' Q I (lc_reads hv' q)⟩
      · cases h
    · cases h
  · cases h
end
theorem cmpE_ok {T : Tab} {N : List Str} {G : Gh} {cl : Oracle} : ∀ (n : Nat) (X : Cx) (sc : Scope), Ok T N X G.toRc cl sc → HF X G cl (cmpE T N n sc)
  | 0, X, sc, O, e, c, h => by cases h
  | n + 1, X, sc, O, e, c, h => by
    have H := cmpE_ok n X sc O
    unfold cmpE at h
    split at h
    · exact nameG O h
    · exact constG h
    · exact binG O H h
    · exact unG O H h
    · exact cmpG O H h
    · exact boolG O H h
    · exact ifeG H h
    · split at h
      · cases h; exact tupG H (by assumption)
      · cases h
    · split at h
      · cases h; exact lstG H (by assumption)
      · cases h
    · exact subG O H h
    · exact callG O H h
    · exact lcG O (fun X sc O => cmpE_ok n X sc O) h
    · cases h
end Pi

-- PiComp3
set_option maxHeartbeats 4000000
namespace Pi
open PySem PySem.Spec PyProof.Rows L2
def noComp : Expr → Bool
  | .ListComp .. | .SetComp .. | .DictComp .. => false
  | _ => true
section
variable (N : List Str) (sc : Scope) (f : Expr → Option CE)
def cTupAsg (ts vs : List Expr) : Option CS := match nmsOf N sc ts, mapEs f vs with
  | some is, some cs => if is.Nodup ∧ vs.length = ts.length ∧ is.length ≤ 1000 ∧ (vs.all (foldedForSure 8) || !vs.all (constantsAlone 8)) = true then some (.asl is cs) else none
  | _, _ => none
def cTup1 (ts : List Expr) (e : Expr) : Option CS := match nmsOf N sc ts, f e with
  | some is, some c => some (.asg (.tp is) c)
  | _, _ => none
def cSetIx (x : Str) (k e : Expr) : Option CS := if noSlice k then match slotOf N sc x, f k, f e with
    | some i, some ck, some ce => some (.setix i ck ce)
    | _, _, _ => none
  else none
def cAsg (tg e : Expr) : Option CS := match tg with
  | .Name x _ => match ownIx N sc x, f e with
    | some i, some c => some (.asg (.nm i) c)
    | _, _ => none
  | .Tuple ts _ _ => match e with
    | .Tuple vs _ _ => cTupAsg N sc f ts vs
    | e => cTup1 N sc f ts e
  | .Subscript (.Name x _) k _ => cSetIx N sc f x k e
  | _ => none
def cListM (x m : Str) (a : Expr) : Option CS := if isStar a then none else match slotOf N sc x, f a with
  | some i, some c => if m = "append" then some (.app i c) else if m = "extend" then some (.ext i c) else none
  | _, _ => none
def cDrop1 (e : Expr) : Option CS := if noComp e then match f e with
    | some c => some (.drop c)
    | none => none
  else none
def cDrop (e : Expr) : Option CS := match e with
  | .Call (.Attribute (.Name x _) m ap) [a] [] cp => if natEq ap.endLine cp.line then cListM N sc f x m a else none
  | e => cDrop1 f e
def cRet (e : Expr) : Option CS := match e with
  | .Name x p => match slotOf N sc x with
    | some i => some (.retv i)
    | none => match f (.Name x p) with
      | some c => some (.ret c)
      | none => none
  | e => match f e with
    | some c => some (.ret c)
    | none => none
def mapS (g : Stmt → Option CS) : List Stmt → Option CSs
  | [] => some .nil
  | s :: ss => match g s, mapS g ss with
    | some c, some cs => some (.cons c cs)
    | _, _ => none
def cFor (g : Stmt → Option CS) (tg it : Expr) (b : List Stmt) : Option CS := if noSet it then match iterOf sc f it, tgOf N sc tg, mapS g b with
    | some ci, some t, some cb => some (.fr t ci cb)
    | _, _, _ => none
  else none
def cIf (g : Stmt → Option CS) (c : Expr) (a b : List Stmt) : Option CS := match f c, mapS g a, mapS g b with
  | some cc, some ca, some cb => some (.ife cc ca cb)
  | _, _, _ => none
def cWhl (g : Stmt → Option CS) (c : Expr) (b : List Stmt) : Option CS := match f c, mapS g b with
  | some cc, some cb => some (.whl cc cb)
  | _, _ => none
def cTry (g : Stmt → Option CS) (b : List Stmt) : Option CS := match mapS g b with
  | some cb => some (.try_ cb)
  | none => none
def cmpS : Nat → Stmt → Option CS
  | 0, _ => none
  | n + 1, st => match st with
    | .Assign [tg] e _ => cAsg N sc f tg e
    | .Expr e _ => cDrop N sc f e
    | .Return none _ => some .ret0
    | .Return (some e) _ => cRet N sc f e
    | .If c a b _ => cIf f (cmpS n) c a b
    | .While c b [] _ => cWhl f (cmpS n) c b
    | .For tg it b [] _ => cFor N sc f (cmpS n) tg it b
    | .Try b (_ :: _) [] [] _ => cTry (cmpS n) b
    | .Raise .. => some .raise
    | .Pass _ => some .pass
    | .Break _ => some .brk
    | .Continue _ => some .cnt
    | _ => none
end
structure OkS (T : Tab) (N : List Str) (X : Cx) (R : Rc) (cl : Oracle) (sc : Scope) : Prop where
  o : Ok T N X R cl sc
  s : Sets X sc
  xe : X.xe = fun _ _ => False
  bk : sc.kind = .function
section
variable {T : Tab} {N : List Str} {X : Cx} {G : Gh} {cl : Oracle} {L : Nat} {sc : Scope} {f : Expr → Option CE}
theorem sole_tup {ts : List Expr} {k : Nat} {p : Pos} {e : Expr} {l : Nat} {env : PySem.Env} : swapsWithSole [.Tuple ts k p] e l env = pure false := by
  cases e <;> rfl
theorem sole_sub {a b : Expr} {p : Pos} {e : Expr} {l : Nat} {env : PySem.Env} : swapsWithSole [.Subscript a b p] e l env = pure false := by
  cases e <;> rfl
theorem sws_sub {a b : Expr} {p : Pos} {e : Expr} {env : PySem.Env} : swappedStores [.Subscript a b p] e env = pure none := by
  cases e <;> rfl
theorem swn {e : Expr} (h : noComp e = true) {l : Nat} {env : PySem.Env} : swapsWith e none l env = pure false := by
  cases e <;> first | rfl | cases h
theorem swx {e t : Expr} (h : noComp e = true) {l : Nat} {env : PySem.Env} : swapsWith e (some t) l env = pure false := by
  cases e <;> first | rfl | cases h
theorem retG (O : OkS T N X G.toRc cl sc) (H : HF X G cl f) {e : Expr} {p : Pos} {c : CS} (h : cRet N sc f e = some c) : PS X (.Return (some e) p) (tS G cl L c) := by
  unfold cRet at h
  split at h
  · split at h
    · cases h
      exact s_retv (pv_of O.o (by assumption))
    · split at h
      · cases h
        exact s_ret (H _ _ (by assumption)).pe
      · cases h
  · split at h
    · cases h
      exact s_ret (H _ _ (by assumption)).pe
    · cases h
theorem dropG (O : OkS T N X G.toRc cl sc) (H : HF X G cl f) {e : Expr} {p : Pos} {c : CS} (h : cDrop N sc f e = some c) : PS X (.Expr e p) (tS G cl L c) := by
  unfold cDrop at h
  split at h
  · rename_i x px m ap a cp
    split at h
    · rename_i hl
      unfold cListM at h
      split at h
      · cases h
      · rename_i hs
        have hs' : isStar a = false := by simpa using hs
        have hst : ∀ env, starEach [a] env = (false, eval a env) :: starEach [] env := fun env => star_one hs'
        have hfew : ((backTo cp (starEach [a] X.env)).all (fun x => !x.1) && (backToKw cp (keywordEach [] X.env)).all (fun x => x.1.isSome)
      && decide (([a] : List Expr).length + ([] : List Keyword).length + (if ([] : List Keyword).isEmpty then 0 else 1) < 30)) = true := by
          rw [hst]
          rfl
        split at h
        · rename_i i c' h1 h2
          split at h
          · rename_i hm
            cases h
            subst hm
            exact s_app (pv_of O.o h1) (H _ _ h2).pe hs' fun ho ht => ps_expr (pe_bm PySem.F.plainAttrs_list PySem.F.slot_list_append PySem.F.type_list_append mt_append ho ht (by rfl) hfew hl (hst _) (by rfl)) (by rfl)
          · split at h
            · rename_i hm
              cases h
              subst hm
              exact s_ext (pv_of O.o h1) (H _ _ h2).pe hs' fun ho ht => ps_expr (pe_bm PySem.F.plainAttrs_list PySem.F.slot_list_extend PySem.F.type_list_extend mt_extend ho ht (by rfl) hfew hl (hst _) (by rfl)) (by rfl)
            · cases h
        · cases h
    · cases h
  · unfold cDrop1 at h
    split at h
    · rename_i hn
      split at h
      · cases h
        exact s_drop (H _ _ (by assumption)).pe (swn hn)
      · cases h
    · cases h
theorem mapS_ok {g : Stmt → Option CS} (hg : ∀ st c, g st = some c → PS X st (tS G cl L c)) : ∀ {ss : List Stmt} {cs : CSs}, mapS g ss = some cs → PSs X ss (tSs G cl L cs)
  | [], cs, h => by cases h; exact ss_nil
  | s :: ss, cs, h => by
    unfold mapS at h
    split at h
    · cases h
      exact ss_cons (hg _ _ (by assumption)) (mapS_ok hg (by assumption))
    · cases h
theorem forG (O : OkS T N X G.toRc cl sc) (H : HF X G cl f) {g : Stmt → Option CS} (hg : ∀ st c, g st = some c → PS X st (tS G cl L c)) {tg it : Expr} {b : List Stmt} {p : Pos} {c : CS} (h : cFor N sc f g tg it b = some c) : PS X (.For tg it b [] p) (tS G cl L c) := by
  unfold cFor at h
  split at h
  · rename_i hn
    split at h
    · rename_i ci t cb h1 h2 h3
      cases h
      have hN := O.o.nm
      exact s_for (by rw [O.xe]; exact PassesOwn.never) O.o.calm (iter_ok O.o H h1) (tg_ok (by rw [hN]; exact O.o.nd) O.o.K O.o.calm O.s (by rw [hN]; exact h2)) (mapS_ok hg h3) (noSet_fold hn)
    · cases h
  · cases h
end
end Pi

-- PiSound5
set_option maxHeartbeats 4000000
namespace Pi
open PySem PySem.Spec PyProof.Rows L2
section
variable {T : Tab} {N : List Str} {X : Cx} {G : Gh} {cl : Oracle} {L : Nat} {sc : Scope} {f : Expr → Option CE}
theorem noSlice_set {o i : Expr} {p : Pos} {env : PySem.Env} (h : noSlice i = true) : ∀ v, assign (.Subscript o i p) env v = (do
      let ov ← holding [v] (eval o env)
      let iv ← holding [v, ov] (eval i env)
      standAt p
      holding [v, ov, iv] (setItem ov iv v)
      release [v, ov, iv] []) := by
  intro v
  cases i <;> first | rfl | cases h
theorem setixG (O : OkS T N X G.toRc cl sc) (H : HF X G cl f) {x : Str} {px p pos : Pos} {k e : Expr} {c : CS} (h : cSetIx N sc f x k e = some c) : PS X (.Assign [.Subscript (.Name x px) k p] e pos) (tS G cl L c) := by
  unfold cSetIx at h
  split at h
  · rename_i hn
    split at h
    · rename_i i ck ce h1 h2 h3
      cases h
      exact s_setix (pv_of O.o h1) (H _ _ h2).pe (H _ _ h3).pe (fun he hg => ps_asg he hg sole_sub sws_sub (by rfl)) fun ho hi hs => pg_sub ho hi hs (noSlice_set hn)
    · cases h
  · cases h
theorem tup1G (O : OkS T N X G.toRc cl sc) (H : HF X G cl f) {ts : List Expr} {k : Nat} {p pos : Pos} {e : Expr} {c : CS} (hne : ∀ vs k p, e ≠ .Tuple vs k p) (h : cTup1 N sc f ts e = some c) : PS X (.Assign [.Tuple ts k p] e pos) (tS G cl L c) := by
  unfold cTup1 at h
  split at h
  · rename_i is c' h1 h2
    cases h
    have hN := O.o.nm
    have hw : swappedStores [.Tuple ts k p] e X.env = pure none := by
      cases e <;> first | rfl | exact absurd rfl (hne _ _ _)
    exact s_tup (H _ _ h2).pe (tg_ok (t := .tp is) (by rw [hN]; exact O.o.nd) O.o.K O.o.calm O.s (by rw [hN]; show (match nmsOf N sc ts with | some is => some (Tg.tp is) | none => none) = _; rw [h1])) sole_tup hw (by rfl)
  · cases h
theorem gns_ok (hN : X.N.Nodup) {sc' : Scope} (S : Sets X sc') : ∀ {es : List Expr} {is : List Nat}, nmsOf X.N sc' es = some is → PGs X es (tGn is)
  | [], is, h => by cases h; exact gn_nil
  | e :: es, is, h => by
    unfold nmsOf at h
    split at h
    · rename_i x; cases x
    · rename_i x p es' heq
      cases heq
      split at h
      · rename_i i is' h1 h2
        cases h
        exact gn_cons (ownIx_ok hN S h1).1 (gns_ok hN S h2)
      · cases h
    · cases h
theorem sl_ok {f : Expr → Option CE} (hf : ∀ e c, f e = some c → PE X e (tE G cl c)) : ∀ {es : List Expr} {cs : CEs}, mapEs f es = some cs → PA X es (tSl G cl cs) ∧ es.all (fun e => !isStar e) = true
  | [], cs, h => by cases h; exact ⟨l_nil, rfl⟩
  | e :: es, cs, h => by
    unfold mapEs at h
    split at h
    · cases h
    · rename_i hs
      have hs' : isStar e = false := by simpa using hs
      split at h
      · rename_i c cs' h1 h2
        cases h
        obtain ⟨q1, q2⟩ := sl_ok hf h2
        exact ⟨l_cons hs' (hf e c h1) q1, by simp [hs', q2]⟩
      · cases h
theorem loc_ok (hN : X.N.Nodup) {sc' : Scope} (S : Sets X sc') {x : Str} {p : Pos} {es : List Expr} {is : List Nat} (h : nmsOf X.N sc' (.Name x p :: es) = some is) : ∃ i is', is = i :: is' ∧ X.N[i]? = some x ∧ nmsOf X.N sc' es = some is' := by
  unfold nmsOf at h
  split at h
  · rename_i i is' h1 h2
    cases h
    exact ⟨i, is', rfl, (ownIx_ok hN S (p := p) h1).2, h2⟩
  · cases h
theorem nms_name {sc' : Scope} {e : Expr} {es : List Expr} {is : List Nat} (h : nmsOf N sc' (e :: es) = some is) : ∃ x p, e = .Name x p := by
  unfold nmsOf at h
  split at h
  · rename_i x; cases x
  · rename_i x p es' heq
    cases heq
    exact ⟨x, p, rfl⟩
  · cases h
theorem stores_at {ts vs : List Expr} {k1 k2 : Nat} {p1 p2 : Pos} {env : PySem.Env} (hc : (vs.all (foldedForSure 8) || !vs.all (constantsAlone 8)) = true) :
    swappedStores [.Tuple ts k1 p1] (.Tuple vs k2 p2) env = pure none ∨
    ((ts.length = 2 ∨ ts.length = 3) ∧ ∃ g : Expr → Option Str, (∀ e x, g e = some x → (∃ p, e = .Name x p) ∧ env.kindOf x = some .local) ∧ (ts.filterMap g).length = ts.length ∧ swappedStores [.Tuple ts k1 p1] (.Tuple vs k2 p2) env = pure (some (ts.filterMap g))) := by
  unfold swappedStores
  simp only []
  split
  · exact .inl rfl
  · rename_i h1
    simp only [Bool.or_eq_true, not_or, Bool.not_eq_true, Bool.not_eq_false'] at h1
    split
    · exact .inl rfl
    · split
      · exact .inl rfl
      · rename_i h2
        split
        · exact .inl rfl
        · rename_i h3
          split
          · rename_i h4
            rw [h4] at hc
            simp at hc
            exact absurd (by simpa using hc) h3
          · refine .inr ⟨?_, _, ?_, ?_, rfl⟩
            · simpa using h1.1.1
            · intro e x h
              split at h
              · rename_i id pos
                split at h
                · rename_i hb
                  cases h
                  rw [Bool.and_eq_true] at hb
                  exact ⟨⟨pos, rfl⟩, by simpa using hb.1⟩
                · cases h
              · cases h
            · simp only [Bool.or_eq_true, not_or, Bool.not_eq_true, bne_eq_false_iff_eq] at h2
              exact h2.1
theorem fm_cons {g : Expr → Option Str} {e : Expr} {ts : List Expr} (h : ((e :: ts).filterMap g).length = (e :: ts).length) : ∃ x, g e = some x ∧ (e :: ts).filterMap g = x :: ts.filterMap g ∧ (ts.filterMap g).length = ts.length := by
  rw [List.filterMap_cons] at h ⊢
  split at h
  · have := List.length_filterMap_le g ts
    rw [List.length_cons] at h
    omega
  · rename_i x hx
    rw [List.length_cons, List.length_cons] at h
    rw [hx]
    exact ⟨x, rfl, rfl, by omega⟩
theorem asg_sole {ts : List Expr} {k : Nat} {p : Pos} {env : PySem.Env} : (assignEach [.Tuple ts k p] env).map (·.2) = [assign (.Tuple ts k p) env] := rfl
theorem tupAsgG (O : OkS T N X G.toRc cl sc) (H : HF X G cl f) {ts vs : List Expr} {k1 k2 : Nat} {p1 p2 pos : Pos} {c : CS} (h : cTupAsg N sc f ts vs = some c) : PS X (.Assign [.Tuple ts k1 p1] (.Tuple vs k2 p2) pos) (tS G cl L c) := by
  unfold cTupAsg at h
  split at h
  · rename_i is cs h1 h2
    split at h
    · rename_i hc
      obtain ⟨c1, c2, c3, c4⟩ := hc
      cases h
      have hN := O.o.nm
      have nd : X.N.Nodup := by rw [hN]; exact O.o.nd
      have h1' : nmsOf X.N sc ts = some is := by rw [hN]; exact h1
      obtain ⟨_, n2, n3⟩ := nms_ok (G := G) nd O.s h1'
      obtain ⟨q1, q2⟩ := sl_ok (vals (H := H)) h2
      rcases stores_at (ts := ts) (k1 := k1) (k2 := k2) (p1 := p1) (p2 := p2) (env := X.env) c4 with hw | ⟨hl, g, hg, hlen, hw⟩
      · have hz : (1000 : Nat) ≤ sizeLine := by decide
        exact s_mul O.o.K O.o.calm q1 (gns_ok nd O.s h1') n2 n3 sole_tup hw asg_sole (by omega)
      · rcases hl with hl | hl
        · match ts, vs, hl, c2 with
          | [a, b], [v, w], _, _ =>
            obtain ⟨x, ga, e1, l1⟩ := fm_cons hlen
            obtain ⟨y, gb, e2, l2⟩ := fm_cons l1
            obtain ⟨⟨px, rfl⟩, lx⟩ := hg _ _ ga
            obtain ⟨⟨py, rfl⟩, ly⟩ := hg _ _ gb
            obtain ⟨i, is', rfl, hi, r1⟩ := loc_ok nd O.s h1'
            obtain ⟨j, is'', rfl, hj, r2⟩ := loc_ok nd O.s r1
            cases r2
            rw [e1, e2] at hw
            have hij : i ≠ j := by
              rintro rfl
              simp at c1
            exact s_par (ps_par O.o.calm nd hi hj hij lx ly q1 hw sole_tup)
        · match ts, vs, hl, c2 with
          | [a, b, d], [v, w, z], _, _ =>
            obtain ⟨x, ga, e1, l1⟩ := fm_cons hlen
            obtain ⟨y, gb, e2, l2⟩ := fm_cons l1
            obtain ⟨u, gd, e3, l3⟩ := fm_cons l2
            obtain ⟨⟨px, rfl⟩, lx⟩ := hg _ _ ga
            obtain ⟨⟨py, rfl⟩, ly⟩ := hg _ _ gb
            obtain ⟨⟨pz, rfl⟩, lz⟩ := hg _ _ gd
            obtain ⟨i, is', rfl, hi, r1⟩ := loc_ok nd O.s h1'
            obtain ⟨j, is'', rfl, hj, r2⟩ := loc_ok nd O.s r1
            obtain ⟨k, is3, rfl, hk, r3⟩ := loc_ok nd O.s r2
            cases r3
            rw [e1, e2, e3] at hw
            simp only [List.nodup_cons, List.mem_cons, List.not_mem_nil, or_false, not_or] at c1
            exact s_par3 (ps_par3 O.o.calm nd hi hj hk c1.1.1 c1.1.2 c1.2.1 lx ly lz q1 hw sole_tup)
    · cases h
  · cases h
end
end Pi

-- PiSound6
set_option maxHeartbeats 4000000
namespace Pi
open PySem PySem.Spec PyProof.Rows L2
section
variable {T : Tab} {N : List Str} {X : Cx} {G : Gh} {cl : Oracle} {L : Nat} {sc : Scope}
theorem ownIx_loc {sc' : Scope} (S : Sets X sc') {x : Str} {i : Nat} (h : ownIx X.N sc' x = some i) : X.N[i]? = some x ∧ Loc X.env.scope x ∧ (X.fn x = true ∨ X.env.scope.names.lookup x = some .local) := by
  unfold ownIx at h
  split at h
  · split at h
    · cases h
    · rename_i hl _
      exact ⟨findIdx_at h, .inl (S.loc _ hl), .inr (S.loc _ hl)⟩
  · split at h
    · cases h
    · rename_i hl _
      exact ⟨findIdx_at h, .inr (S.cell _ hl).1, .inl (S.cell _ hl).2⟩
  · cases h
theorem lcSet {f : Scope → Expr → Option CE} (O : Ok T N X G.toRc cl sc) (H : ∀ (X : Cx) (sc : Scope), Ok T N X G.toRc cl sc → HF X G cl (f sc)) {elt : Expr} {g : Comprehension} {scope : Scope} {p spos py : Pos} {c : CE} {y : Str} {i : Nat} (hy : X.N[i]? = some y) (hyl : X.env.scope.names.lookup y = some .local)
    (hsw : swapsWith (.ListComp elt [g] scope p) (some (.Name y py)) spos.line X.env = pure true) (h : cLc N f sc elt scope g = some c) : PS X (.Assign [.Name y py] (.ListComp elt [g] scope p) spos) (tAsg (tE G cl c) (gName i)) := by
  unfold cLc at h
  split at h
  rename_i tg iter ifs k
  split at h
  · rename_i hc
    rw [Bool.and_eq_true, Bool.and_eq_true] at hc
    obtain ⟨⟨hk, hs⟩, hb⟩ := hc
    have hk := of_decide_eq_true hk
    subst hk
    split at h
    · rename_i ci t ce cc h1 h2 h3 h4
      split at h
      · rename_i hv
        cases h
        have hv' : ∀ j ∈ t.vars, j ∈ (ownOf N scope).map (·.2) := fun j hj => by
          have := List.all_eq_true.mp hv j hj
          simpa using this
        have ok : BlkOk X.N X.env.scope scope (ownOf N scope) := by
          rw [O.nm, O.sc]
          exact blkOk_by hb
        have hts : ∀ (s : Shared) (H' : Hp) (C : Addr) (cs : List (Str × Addr)) (fp : List Addr), PTs (X.blk s H' scope (compEnvC scope cs C X.env) fp) ifs (tT G cl cc) := fun s H' C cs fp => by
          unfold condOf at h4
          split at h4
          · cases h4
            exact ts_nil (b := .Constant (.bool true) 0 p)
          · exact pts_one (H _ _ (O.blk s H' scope C cs fp) _ _ h4).pt
          · cases h4
        exact ⟨fun pins s σ H' D I q => (ps_setLc (wi := tI G cl ci) (g := tG G t) (tt := tT G cl cc) (te := tV G cl ce) O.calm (by rw [O.nm]; exact O.nd) hy hyl hsw (iter_ok O (H _ _ O) h1) ok
          (fun s H' C cs fp => tg_ok (X := X.blk s H' scope (compEnvC scope cs C X.env) fp) (by rw [(O.blk s H' scope C cs fp).nm]; exact O.nd) O.K O.calm (sets_blk s H' scope C cs fp) (by rw [(O.blk s H' scope C cs fp).nm]; exact h2)) hts
          (fun s H' C cs fp => pe_val (H _ _ (O.blk s H' scope C cs fp) _ _ h3).pe) (noSet_fold hs)).run pins s σ H' D I (lc_reads hv' q)⟩
      · cases h
    · cases h
  · cases h
theorem swLc {elt : Expr} {gs : List Comprehension} {scope : Scope} {p py : Pos} {y : Str} {l : Nat} {env : PySem.Env} : ∃ b, swapsWith (.ListComp elt gs scope p) (some (.Name y py)) l env = pure b ∧ (b = true → env.scope.names.lookup y = some .local) := by
  refine ⟨_, rfl, fun h => ?_⟩
  simp only [Bool.and_eq_true] at h
  simpa [Env.kindOf] using h.1.1.2
theorem cmpE_lc {n : Nat} {elt : Expr} {gs : List Comprehension} {scope : Scope} {p : Pos} {c : CE} (h : cmpE T N (n + 1) sc (.ListComp elt gs scope p) = some c) : ∃ g, gs = [g] ∧ cLc N (cmpE T N n) sc elt scope g = some c := by
  match gs, h with
  | [], h => cases h
  | [g], h => exact ⟨g, rfl, h⟩
  | _ :: _ :: _, h => cases h
theorem nameAsgG {n : Nat} (O : OkS T N X G.toRc cl sc) {x : Str} {px pos : Pos} {e : Expr} {i : Nat} {c : CE} (hi : ownIx N sc x = some i) (h : cmpE T N n sc e = some c) : PS X (.Assign [.Name x px] e pos) (tS G cl L (.asg (.nm i) c)) := by
  have hN := O.o.nm
  have nd : X.N.Nodup := by rw [hN]; exact O.o.nd
  obtain ⟨q1, q2, q3⟩ := ownIx_loc O.s (x := x) (i := i) (by rw [hN]; exact hi)
  have Hn := cmpE_ok (G := G) n X sc O.o
  refine s_asg ?_
  by_cases hc : noComp e = true
  · exact ps_set nd q1 q2 (Hn _ _ h).pe (swx hc) q3
  · cases e <;> first | exact absurd rfl hc | skip
    · rename_i elt gs scope p
      obtain ⟨b, hb, hl⟩ := swLc (elt := elt) (gs := gs) (scope := scope) (p := p) (py := px) (y := x) (l := pos.line) (env := X.env)
      cases b with
      | false => exact ps_set nd q1 q2 (Hn _ _ h).pe hb q3
      | true =>
        cases n with
        | zero => cases h
        | succ n =>
          obtain ⟨g, rfl, h'⟩ := cmpE_lc h
          exact lcSet O.o (fun X sc O => cmpE_ok n X sc O) q1 (hl rfl) hb h'
    · cases n with
      | zero => cases h
      | succ n => cases h
    · cases n with
      | zero => cases h
      | succ n => cases h
theorem asgG {m : Nat} (O : OkS T N X G.toRc cl sc) {tg e : Expr} {p : Pos} {c : CS} (h : cAsg N sc (cmpE T N m sc) tg e = some c) : PS X (.Assign [tg] e p) (tS G cl L c) := by
  have Hn := cmpE_ok (G := G) m X sc O.o
  unfold cAsg at h
  split at h
  · split at h
    · cases h
      exact nameAsgG O (by assumption) (by assumption)
    · cases h
  · split at h
    · exact tupAsgG O Hn h
    · rename_i hne
      exact tup1G O Hn (fun vs k p he => hne vs k p he) h
  · exact setixG O Hn h
  · cases h
theorem nox_eq {X : Cx} (h : X.xe = fun _ _ => False) : X.nox = X := by
  cases X
  subst h
  rfl
theorem cmpS_ok {m : Nat} (O : OkS T N X G.toRc cl sc) : ∀ (n : Nat) (st : Stmt) (c : CS), cmpS N sc (cmpE T N m sc) n st = some c → PS X st (tS G cl L c)
  | 0, st, c, h => by cases h
  | n + 1, st, c, h => by
    have Hn := cmpE_ok (G := G) m X sc O.o
    have IH := cmpS_ok (m := m) O n
    unfold cmpS at h
    split at h
    · exact asgG O h
    · exact dropG O Hn h
    · cases h; exact s_ret0
    · exact retG O Hn h
    · unfold cIf at h
      split at h
      · cases h
        exact s_ife (Hn _ _ (by assumption)).pt (mapS_ok IH (by assumption)) (mapS_ok IH (by assumption))
      · cases h
    · unfold cWhl at h
      split at h
      · cases h
        exact s_whl (by rw [O.xe]; exact PassesOwn.never) (Hn _ _ (by assumption)).pt (mapS_ok IH (by assumption))
      · cases h
    · exact forG O Hn IH h
    · unfold cTry at h
      split at h
      · cases h
        exact s_try (by rw [nox_eq O.xe]; exact mapS_ok IH (by assumption))
      · cases h
    · cases h; exact s_raise
    · cases h; exact s_pass
    · cases h; exact s_brk
    · cases h; exact s_cnt
    · cases h
end
end Pi

-- PiDef
set_option maxHeartbeats 4000000
namespace Pi
open PySem PySem.Spec PyProof.Rows L2

def ioFrom : Nat → List Slot → List V → List (Nat × Addr)
  | i, .io _ :: ss, .ref a :: vs => (i, a) :: ioFrom (i + 1) ss vs
  | i, _ :: ss, _ :: vs => ioFrom (i + 1) ss vs
  | _, _, _ => []
def InOk (R : Rc) (H : Hp) : Slot → V → Prop
  | .val d, v => Rep R H v d
  | .io ds, v => ∃ a xs, v = .ref a ∧ H a = some (.lst xs) ∧ Reps R H xs ds
  | _, _ => False
def InsOk (R : Rc) (H : Hp) : List Slot → List V → Prop
  | [], [] => True
  | s :: ss, v :: vs => InOk R H s v ∧ InsOk R H ss vs
  | _, _ => False
section
variable {R : Rc} {H : Hp}
theorem argSlots_ok : ∀ {ms : List Bool} {args ss : List Slot} {vs : List V} (k : Nat), argSlots ms args = some ss → ArgsOk R H args vs → InsOk R H ss vs ∧ (ioFrom k ss vs).map (·.2) = ownsOf args vs ∧ ss.length = args.length
  | [], args, ss, vs, k, h, a => by
    cases args with
    | nil =>
      cases h
      cases vs with
      | nil => exact ⟨trivial, rfl, rfl⟩
      | cons _ _ => exact a.elim
    | cons _ _ => cases h
  | m :: ms, [], ss, vs, k, h, a => by cases m <;> cases h
  | m :: ms, s :: args, ss, [], k, h, a => a.elim
  | m :: ms, s :: args, ss, v :: vs, k, h, a => by
    obtain ⟨a1, a2⟩ := a
    cases m with
    | true =>
      cases s with
      | own ds =>
        obtain ⟨ss', h1, rfl⟩ := map_some' (show (argSlots ms args).map (Slot.io ds :: ·) = some ss from h)
        obtain ⟨q1, q2, q3⟩ := argSlots_ok (k + 1) h1 a2
        obtain ⟨b, xs, rfl, e1, e2⟩ := a1
        refine ⟨⟨⟨b, xs, rfl, e1, e2⟩, q1⟩, ?_, by simp [q3]⟩
        show b :: (ioFrom (k + 1) ss' vs).map (·.2) = b :: ownsOf args vs
        rw [q2]
      | nil => cases h
      | val _ => cases h
      | io _ => cases h
    | false =>
      cases s with
      | val d =>
        obtain ⟨ss', h1, rfl⟩ := map_some' (show (argSlots ms args).map (Slot.val d :: ·) = some ss from h)
        obtain ⟨q1, q2, q3⟩ := argSlots_ok (k + 1) h1 a2
        refine ⟨⟨a1, q1⟩, ?_, by simp [q3]⟩
        have e1 : ioFrom k (.val d :: ss') (v :: vs) = ioFrom (k + 1) ss' vs := by cases v <;> rfl
        have e2 : ownsOf (.val d :: args) (v :: vs) = ownsOf args vs := by cases v <;> rfl
        rw [e1, e2, q2]
      | nil => cases h
      | own _ => cases h
      | io _ => cases h
theorem InsOk.len : ∀ {ss : List Slot} {vs : List V}, InsOk R H ss vs → vs.length = ss.length
  | [], [], _ => rfl
  | [], _ :: _, h => h.elim
  | _ :: _, [], h => h.elim
  | s :: ss, v :: vs, h => by simp [InsOk.len h.2]
theorem InsOk.at : ∀ {ss : List Slot} {vs : List V} {i : Nat} {s : Slot}, InsOk R H ss vs → ss[i]? = some s → ∃ v, vs[i]? = some v ∧ InOk R H s v
  | [], _, i, s, h, e => by simp at e
  | _ :: _, [], i, s, h, e => h.elim
  | s' :: ss, v :: vs, 0, s, h, e => by simp at e; subst e; exact ⟨v, rfl, h.1⟩
  | s' :: ss, v :: vs, i + 1, s, h, e => by
    have e' : ss[i]? = some s := by simpa using e
    obtain ⟨w, e1, q⟩ := InsOk.at h.2 e'
    exact ⟨w, by simpa using e1, q⟩
theorem ioFrom_mem : ∀ {ss : List Slot} {vs : List V} {k i : Nat} {ds : List D} {a : Addr}, ss[i]? = some (.io ds) → vs[i]? = some (.ref a) → (k + i, a) ∈ ioFrom k ss vs
  | [], _, k, i, ds, a, e, _ => by simp at e
  | _ :: _, [], k, i, ds, a, _, e => by simp at e
  | s :: ss, v :: vs, k, 0, ds, a, e1, e2 => by
    simp at e1 e2
    subst e1; subst e2
    exact List.mem_cons_self
  | s :: ss, v :: vs, k, i + 1, ds, a, e1, e2 => by
    have q := ioFrom_mem (k := k + 1) (show ss[i]? = some (.io ds) by simpa using e1) (show vs[i]? = some (.ref a) by simpa using e2)
    have e : k + 1 + i = k + (i + 1) := by omega
    rw [e] at q
    cases s <;> cases v <;> first | exact q | exact List.mem_cons_of_mem _ q
theorem ioFrom_of : ∀ {ss : List Slot} {vs : List V} {k : Nat} {p : Nat × Addr}, p ∈ ioFrom k ss vs → ∃ i ds, p.1 = k + i ∧ ss[i]? = some (.io ds) ∧ vs[i]? = some (.ref p.2)
  | [], _, k, p, h => by simp [ioFrom] at h
  | s :: ss, [], k, p, h => by cases s <;> simp [ioFrom] at h
  | s :: ss, v :: vs, k, p, h => by
    have rest : p ∈ ioFrom (k + 1) ss vs → ∃ i ds, p.1 = k + i ∧ (s :: ss)[i]? = some (.io ds) ∧ (v :: vs)[i]? = some (.ref p.2) := fun h => by
      obtain ⟨i, ds, e1, e2, e3⟩ := ioFrom_of h
      exact ⟨i + 1, ds, by omega, by simpa using e2, by simpa using e3⟩
    cases s <;> cases v <;> first
      | exact rest h
      | (rcases List.mem_cons.mp h with h | h
         · subst h
           exact ⟨0, _, rfl, rfl, rfl⟩
         · exact rest h)
theorem inj_map {α β : Type} {f : α → β} : ∀ {l : List α}, (l.map f).Nodup → ∀ {x y : α}, x ∈ l → y ∈ l → f x = f y → x = y
  | [], _, x, _, h, _, _ => by cases h
  | a :: l, nd, x, y, hx, hy, e => by
    rw [List.map_cons, List.nodup_cons] at nd
    rcases List.mem_cons.mp hx with h1 | h1 <;> rcases List.mem_cons.mp hy with h2 | h2
    · rw [h1, h2]
    · rw [← h1, e] at nd
      exact absurd (List.mem_map_of_mem h2) nd.1
    · rw [← h2, ← e] at nd
      exact absurd (List.mem_map_of_mem h1) nd.1
    · exact inj_map nd.2 h1 h2 e
abbrev entryG (R : Rc) (H : Hp) (ss : List Slot) (vs : List V) : Gh := { R with H0 := H, io := ioFrom 0 ss vs }
abbrev entryE (n : Nat) (ss : List Slot) : En := ss ++ List.replicate (n - ss.length) Slot.nil
theorem entry_at {n : Nat} {ss : List Slot} {i : Nat} {s : Slot} (e : (entryE n ss)[i]? = some s) : (i < ss.length ∧ ss[i]? = some s) ∨ s = .nil := by
  by_cases h : i < ss.length
  · rw [List.getElem?_append_left h] at e
    exact .inl ⟨h, e⟩
  · rw [List.getElem?_append_right (by omega)] at e
    have := List.mem_of_getElem? e
    exact .inr (List.eq_of_mem_replicate this)
theorem start_at {N : List Str} {vs : List V} {i : Nat} {v : V} (e : vs[i]? = some v) : (L2.start N vs)[i]? = some (some v) := by
  have h := (List.getElem?_eq_some_iff.mp e).1
  unfold L2.start
  rw [List.getElem?_append_left (by simpa using h), List.getElem?_map, e]
  rfl
theorem entry_ok {N : List Str} {ss : List Slot} {vs : List V} (h : InsOk R H ss vs) (hn : ss.length ≤ N.length) (nd : ((ioFrom 0 ss vs).map (·.2)).Nodup) : EnvOk (entryG R H ss vs) (entryE N.length ss) (L2.start N vs) H := by
  have hl := h.len
  have hmut : ∀ (i : Nat) (s : Slot) (a : Addr), (entryE N.length ss)[i]? = some s → s.isMut = true → (L2.start N vs)[i]? = some (some (V.ref a)) → (i, a) ∈ ioFrom 0 ss vs := fun i s a e m q => by
    rcases entry_at e with ⟨hi, e'⟩ | rfl
    · obtain ⟨v, e2, q2⟩ := h.at e'
      rw [start_at e2] at q
      cases q
      cases s with
      | nil => cases m
      | val _ => cases m
      | own _ => exact q2.elim
      | io ds =>
        have := ioFrom_mem (k := 0) e' e2
        rwa [Nat.zero_add] at this
    · cases m
  refine ⟨?_, fun i s e => ?_, fun i j s t a e1 e2 m1 m2 q1 q2 => ?_, fun a o e _ => e, fun p hp => ?_⟩
  · unfold L2.start
    rw [List.length_append, List.length_append, List.length_replicate, List.length_replicate, List.length_map, hl]
  · rcases entry_at e with ⟨hi, e'⟩ | rfl
    · obtain ⟨v, e2, q2⟩ := h.at e'
      cases s with
      | nil => trivial
      | val d => exact ⟨v, start_at e2, q2⟩
      | own _ => exact q2.elim
      | io ds =>
        obtain ⟨a, xs, rfl, e3, e4⟩ := q2
        have := ioFrom_mem (k := 0) e' e2
        rw [Nat.zero_add] at this
        exact ⟨a, xs, start_at e2, e3, e4, this⟩
    · trivial
  · have := inj_map nd (hmut i s a e1 m1 q1) (hmut j t a e2 m2 q2) rfl
    exact (Prod.mk.inj this).1
  · obtain ⟨i, ds, e1, e2, e3⟩ := ioFrom_of hp
    rw [Nat.zero_add] at e1
    rw [e1]
    have hi := (List.getElem?_eq_some_iff.mp e2).1
    exact ⟨ds, by rw [List.getElem?_append_left hi]; exact e2, start_at e3⟩
theorem outs_ok {G : Gh} {e : En} {σ' : Sg} {H' : Hp} (E : EnvOk G e σ' H') : ∀ {ms : List Bool} {args ss : List Slot} {vs : List V} {outs : List (List D)} (k : Nat), argSlots ms args = some ss → ArgsOk R H args vs → (∀ p ∈ ioFrom k ss vs, p ∈ G.io) → outsOf ms (e.drop k) = some outs →
    OutsOk G.toRc H' (ownsOf args vs) outs
  | [], args, ss, vs, outs, k, h, a, hio, ho => by
    cases args with
    | nil =>
      cases vs with
      | nil =>
        have : outs = [] := by
          cases hh : e.drop k <;> (rw [hh] at ho; cases ho; rfl)
        subst this
        trivial
      | cons _ _ => exact a.elim
    | cons _ _ => cases h
  | m :: ms, [], ss, vs, outs, k, h, a, hio, ho => by cases m <;> cases h
  | m :: ms, s :: args, ss, [], outs, k, h, a, hio, ho => a.elim
  | m :: ms, s :: args, ss, v :: vs, outs, k, h, a, hio, ho => by
    obtain ⟨a1, a2⟩ := a
    cases he : e.drop k with
    | nil => rw [he] at ho; cases m <;> cases ho
    | cons t r =>
      have hr : r = e.drop (k + 1) := by
        have : (e.drop k).tail = e.drop (k + 1) := by rw [List.tail_drop]
        rw [he] at this
        exact this
      have ht : e[k]? = some t := by
        have : (e.drop k)[0]? = some t := by rw [he]; rfl
        rwa [List.getElem?_drop, Nat.add_zero] at this
      rw [he] at ho
      cases m with
      | true =>
        cases s with
        | own ds =>
          obtain ⟨ss', h1, rfl⟩ := map_some' (show (argSlots ms args).map (Slot.io ds :: ·) = some ss from h)
          obtain ⟨b, xs, rfl, e1, e2⟩ := a1
          have hb : (k, b) ∈ G.io := hio _ List.mem_cons_self
          obtain ⟨ds', f1, f2⟩ := E.iok _ hb
          simp only at f1 f2
          rw [ht] at f1
          cases f1
          obtain ⟨outs', g1, rfl⟩ := map_some' (show (outsOf ms r).map (ds' :: ·) = some outs from ho)
          obtain ⟨b', xs', z1, z2, z3, _⟩ := E.slot _ _ ht
          rw [f2] at z1
          cases z1
          rw [hr] at g1
          exact ⟨⟨xs', z2, z3⟩, outs_ok E (k + 1) h1 a2 (fun p hp => hio p (List.mem_cons_of_mem _ hp)) g1⟩
        | nil => cases h
        | val _ => cases h
        | io _ => cases h
      | false =>
        cases s with
        | val d =>
          obtain ⟨ss', h1, rfl⟩ := map_some' (show (argSlots ms args).map (Slot.val d :: ·) = some ss from h)
          have e1 : ioFrom k (.val d :: ss') (v :: vs) = ioFrom (k + 1) ss' vs := by cases v <;> rfl
          have e2 : ownsOf (.val d :: args) (v :: vs) = ownsOf args vs := by cases v <;> rfl
          rw [e2]
          rw [e1] at hio
          have g1 : outsOf ms r = some outs := by cases t <;> exact ho
          rw [hr] at g1
          exact outs_ok E (k + 1) h1 a2 hio g1
        | nil => cases h
        | own _ => cases h
        | io _ => cases h
theorem aft_ok {N : List Str} {ms : List Bool} {args ss : List Slot} {vs : List V} {e : En} {σ' : Sg} {H' : Hp} {outs : List (List D)} {r : Slot} {v : V} (ha : argSlots ms args = some ss) (hs : ArgsOk R H args vs) (E : EnvOk (entryG R H ss vs) e σ' H') (ho : outsOf ms e = some outs) (hr : RetOk R H H' r v) :
    Aft R H args vs r outs v H' := by
  obtain ⟨q1, q2, q3⟩ := argSlots_ok 0 ha hs
  refine ⟨hr, outs_ok (R := R) (H := H) E 0 ha hs (fun p hp => hp) (by rw [List.drop_zero]; exact ho), fun a o e1 hn => E.fr a o e1 (by rw [show (entryG R H ss vs).io.map (·.2) = ownsOf args vs from q2]; exact hn), fun a hn => ?_, trivial⟩
  by_cases hm : a ∈ (entryG R H ss vs).io.map (·.2)
  · obtain ⟨p, hp, rfl⟩ := List.mem_map.mp hm
    obtain ⟨ds, f1, f2⟩ := E.iok p hp
    obtain ⟨b, xs, z1, z2, _⟩ := E.slot _ _ f1
    rw [f2] at z1
    cases z1
    rw [hn] at z2
    cases z2
  · cases hh : H a with
    | none => rfl
    | some o =>
      have := E.fr a o hh hm
      rw [hn] at this
      cases this
end
end Pi

-- PiDef2
set_option maxHeartbeats 4000000
namespace Pi
open PySem PySem.Spec PyProof.Rows L2
structure DefF (T : Tab) (tab : Nat → Option CDef) (R : Rc) (j : Nat) (fd : FuncData) (ps : List Str) : Prop where
  ex : ∃ (x : Str) (params : Arguments) (body : List Stmt) (scope : Scope) (dvs : List V) (N : List Str) (d : CDef) (mE mS : Nat), tab j = some d ∧ FunD R.K x x params body scope dvs [] (R.fa j) fd ∧ FnScope N ps scope ∧
    d.mask.length = ps.length ∧ d.size = N.length ∧ mapS (cmpS N scope (cmpE T N mE scope) mS) body = some d.body
structure Mod (T : Tab) (tab : Nat → Option CDef) (R : Rc) (mg : Str → Option Value) : Prop where
  fns : ∀ (x : Str) (n j : Nat) (ms : List Bool) (dv : List D), (j, ms, dv) ∈ T.fn x n → ∃ fd ps, DefF T tab R j fd ps ∧ mg x = some (.ref (R.fa j)) ∧ ∃ (ds : List Value) (dvs : List V), Binds R.K fd ps ds ∧ Vals dvs ds ∧ ∀ H, Reps R H dvs dv
  cst : ∀ (x : Str) (d : D), T.cst x = some d → ∃ v u, mg x = some u ∧ RelV v u ∧ ∀ H, Rep R H v d
  fv : ∀ (x : Str) (j : Nat), T.fv x = some j → mg x = some (.ref (R.fa j))
  free : ∀ x ∈ freeNames, mg x = none
  all : ∀ j, tab j ≠ none → ∃ fd ps, DefF T tab R j fd ps ∧ Binds R.K fd ps []
section
variable {T : Tab} {tab : Nat → Option CDef} {R : Rc} {mg : Str → Option Value} {P : Program} {w : World} {base : Heap} {L : Nat}
theorem argSlots_len : ∀ {ms : List Bool} {args ss : List Slot}, argSlots ms args = some ss → args.length = ms.length
  | [], [], _, _ => rfl
  | [], _ :: _, _, h => by cases h
  | m :: ms, [], _, h => by cases m <;> cases h
  | m :: ms, s :: args, ss, h => by
    cases m <;> cases s <;> try cases h
    · obtain ⟨ss', h1, _⟩ := map_some' (show (argSlots ms args).map (Slot.val _ :: ·) = some ss from h)
      simp [argSlots_len h1]
    · obtain ⟨ss', h1, _⟩ := map_some' (show (argSlots ms args).map (Slot.io _ :: ·) = some ss from h)
      simp [argSlots_len h1]
theorem call_succ {k j : Nat} {args : List Slot} {d : CDef} {x : Slot × List (List D)} (hd : tab j = some d) (h : call tab L (k + 1) j args = some x) : runDef (call tab L k) L d args = some x := by
  unfold call at h
  rw [hd] at h
  exact h
theorem call_tab {k j : Nat} {args : List Slot} {y : Slot × List (List D)} (h : call tab L k j args = some y) : tab j ≠ none := fun e => by
  cases k with
  | zero => cases h
  | succ k =>
    unfold call at h
    rw [e] at h
    cases h
theorem defs_ok (M : Mod T tab R mg) : ∀ (k : Nat) (j : Nat) (fd : FuncData) (ps : List Str), DefF T tab R j fd ps → FnG P w R.K mg base k (R.fa j) fd ps (spO R (call tab L k) j)
  | 0, j, fd, ps, F => ⟨fun vs H Q E h0 => (by obtain ⟨args, r, outs, _, _, h, _⟩ := h0; cases h), fun A outer s H args us vs Q E _ _ _ _ _ h0 => (by obtain ⟨args', r, outs, _, _, h, _⟩ := h0; cases h)⟩
  | k + 1, j, fd, ps, F => by
    obtain ⟨x, params, body, scope, dvs, N, d, mE, mS, hd, FD, S, hm, hsz, hc⟩ := F.ex
    refine FunD.okG FD S (fun vs H Q E ⟨args, r, outs, ha, _, h, _⟩ => ?_) (fun cdv A outer s H vs Q E hgd hr ⟨args, r, outs, ha, nd, h, q⟩ => ?_)
    · have h' := call_succ hd h
      unfold runDef at h'
      split at h'
      · rename_i ss hss
        rw [ha.length, argSlots_len hss, hm]
      · cases h'
    · have h' := call_succ hd h
      unfold runDef at h'
      split at h'
      · rename_i ss hss
        obtain ⟨q1, q2, q3⟩ := argSlots_ok 0 hss ha
        have hps : ps.length ≤ N.length := by have := congrArg List.length S.pre; rw [List.length_take] at this; omega
        have hle : ss.length ≤ N.length := by rw [q3, argSlots_len hss, hm]; exact hps
        have E0 := entry_ok (N := N) q1 hle (by rw [q2]; exact nd)
        refine ⟨tSs (entryG R H ss vs) (call tab L k) L d.body, PSs.nox ?_, entryE N.length ss, ?_⟩
        · have O : OkS T N (cxOf CX0 P w R.K mg base N x scope (R.fa j) cdv A outer s H E).nox (entryG R H ss vs).toRc (call tab L k) scope :=
            ⟨{ nm := rfl, nd := S.nd, sc := rfl, calm := rfl, K := rfl, un := hr.units, gd := hgd, held := ⟨k, hr, fun j' args' y hc => by
                obtain ⟨fd', ps', F', hb'⟩ := M.all j' (call_tab hc)
                obtain ⟨_, _, _, _, _, _, _, _, _, _, FD', _⟩ := F'.ex
                exact ⟨fd', ps', defs_ok M k j' fd' ps' F', FD'.kp, hb'⟩⟩, fns := fun y n j' ms dv hf => by
                obtain ⟨fd', ps', F', hmg, ds, dvs', hb, hv, hrp⟩ := M.fns y n j' ms dv hf
                obtain ⟨_, _, _, _, _, _, _, _, _, _, FD', _⟩ := F'.ex
                exact ⟨k, fd', ps', ds, dvs', defs_ok M k j' fd' ps' F', hr, hmg, FD'.kp, hb, hv, hrp⟩
               cst := M.cst, fv := M.fv, free := M.free }, ⟨fun _ h => h, fun _ h => ⟨h, rfl⟩⟩, rfl, S.kind⟩
          exact mapS_ok (fun st c hst => cmpS_ok O mS st c hst) hc
        · rw [hsz] at h'
          split at h'
          · rename_i e he
            obtain ⟨o, ho, e2⟩ := map_some' h'
            cases e2
            refine ⟨_, E0, he, fun σ' H' E' kp => q _ _ (aft_ok (N := N) hss ha E' ho ?_)⟩
            exact rfl
          · rename_i r' e he
            obtain ⟨o, ho, e2⟩ := map_some' h'
            cases e2
            exact ⟨_, E0, he, fun v σ' H' E' hret => q _ _ (aft_ok (N := N) hss ha E' ho hret)⟩
          · cases h'
      · cases h'
end
end Pi

-- PiMod
set_option maxHeartbeats 4000000
namespace Pi
open PySem PySem.Spec PyProof.Rows L2
structure TDef where
  x : Str
  st : Stmt
  N : List Str
  mask : List Bool
  code : CSs
  dfl : List D := []
def fnParams (st : Stmt) : List Str := (defArgs st).posonlyargs.map (·.arg) ++ (defArgs st).args.map (·.arg)
def TDef.ps (d : TDef) : List Str := fnParams d.st
def findDef (x : Str) (n : Nat) : List TDef → Nat → List (Nat × List Bool × List D) → List (Nat × List Bool × List D)
  | [], _, acc => acc
  | d :: ds, i, acc => findDef x n ds (i + 1) (if d.x = x ∧ n ≤ d.mask.length ∧ d.mask.length ≤ n + d.dfl.length then (i, d.mask, d.dfl.drop (n + d.dfl.length - d.mask.length)) :: acc else acc)
theorem findDef_at {x : Str} {n : Nat} : ∀ {ds : List TDef} {i : Nat} {acc : List (Nat × List Bool × List D)} {p : Nat × List Bool × List D}, p ∈ findDef x n ds i acc → p ∈ acc ∨ ∃ k d, p = (i + k, d.mask, d.dfl.drop (n + d.dfl.length - d.mask.length)) ∧ ds[k]? = some d ∧ d.x = x ∧ n ≤ d.mask.length ∧ d.mask.length ≤ n + d.dfl.length
  | [], i, acc, p, h => .inl h
  | d :: ds, i, acc, p, h => by
    rcases findDef_at (show p ∈ findDef x n ds (i + 1) _ from h) with h | ⟨k, d', h1, h2, h3⟩
    · split at h
      · rename_i hx
        rcases List.mem_cons.mp h with h | h
        · exact .inr ⟨0, d, h, rfl, hx⟩
        · exact .inl h
      · exact .inl h
    · exact .inr ⟨k + 1, d', by rw [h1]; congr 1; omega, by simpa using h2, h3⟩
def findFv (x : Str) : List TDef → Nat → Option Nat
  | [], _ => none
  | d :: ds, i => if d.x = x then some i else findFv x ds (i + 1)
theorem findFv_at {x : Str} : ∀ {ds : List TDef} {i j : Nat}, findFv x ds i = some j → ∃ k d, j = i + k ∧ ds[k]? = some d ∧ d.x = x
  | [], i, j, h => by cases h
  | d :: ds, i, j, h => by
    unfold findFv at h
    split at h
    · rename_i hx
      cases h
      exact ⟨0, d, rfl, rfl, hx⟩
    · obtain ⟨k, d', h1, h2, h3⟩ := findFv_at h
      exact ⟨k + 1, d', by omega, by simpa using h2, h3⟩
def lookC (x : Str) : List (Str × Int) → Option Int
  | [] => none
  | p :: ps => if p.1 = x then some p.2 else lookC x ps
theorem lookC_mem {x : Str} {i : Int} : ∀ {l : List (Str × Int)}, lookC x l = some i → (x, i) ∈ l
  | [], h => by cases h
  | p :: ps, h => by
    unfold lookC at h
    split at h
    · rename_i hx
      cases h
      subst hx
      exact List.mem_cons_self
    · exact List.mem_cons_of_mem _ (lookC_mem h)
def TOf (ds : List TDef) (cs : List (Str × Int)) : Tab where
  fn x n := findDef x n ds 0 []
  cst x := match lookC x cs with
    | some i => some (.int i)
    | none => none
  fv x := findFv x ds 0
def tabOf (ds : List TDef) (j : Nat) : Option CDef := match ds[j]? with
  | some d => some ⟨d.mask, d.N.length, d.code⟩
  | none => none
def dvOf : D → He.Dv
  | .bl b => .bl b
  | .int i => .int i
  | .str s => .str s
  | _ => .non
def simpD : D → Bool
  | .non | .bl _ | .int _ | .str _ => true
  | _ => false
theorem simp_reps {R : Rc} {H : Hp} : ∀ {ds : List D}, ds.all simpD = true → Reps R H (ds.map fun d => (dvOf d).v R.K) ds
  | [], _ => trivial
  | d :: ds, h => by
    rw [List.all_cons, Bool.and_eq_true] at h
    refine ⟨?_, simp_reps h.2⟩
    cases d <;> first | rfl | cases h.1
structure TDef.Ok (T : Tab) (d : TDef) : Prop where
  comp : mapS (cmpS d.N (defScope d.st) (cmpE T d.N 40 (defScope d.st)) 40) (defBody d.st) = some d.code
  sc : FnScope d.N d.ps (defScope d.st)
  len : d.mask.length = d.ps.length
  bind : d.dfl = [] → ∀ (kV doc pm : Value) (an : Option Addr) (cdv ct : Value) (us : List Value), us.length = d.ps.length → bindArgs (PySem.W.fnOf d.x d.x (defArgs d.st) (defBody d.st) (defScope d.st) .none kV doc pm an cdv ct) ⟨us, []⟩ = pure (d.ps.zip us)
  bindD : ∀ (j : Nat), j ≤ d.dfl.length → d.dfl ≠ [] → ∀ (T : Addr) (kV doc pm : Value) (an : Option Addr) (cdv ct : Value) (us its : List Value), us.length + (d.dfl.length - j) = d.ps.length → its.length = d.dfl.length →
    ∃ k, bindArgs (PySem.W.fnOf d.x d.x (defArgs d.st) (defBody d.st) (defScope d.st) (.ref T) kV doc pm an cdv ct) ⟨us, []⟩ = seqItems? (.ref T) >>= k ∧ k (some its.toArray) = pure (d.ps.zip (us ++ its.drop j))
  simp : d.dfl.all simpD = true
def TDef.dd (d : TDef) : He.DefD := ⟨(d.x, none), d.x, d.x, defArgs d.st, defBody d.st, defScope d.st, d.dfl.map dvOf, []⟩
def fnL (ds : List TDef) : List He.DefD := ds.map TDef.dd
def faL (ds : List TDef) (cs : List (Str × Int)) : List He.Fa := ds.map (fun d => .glo d.x) ++ (cs.map (fun p => .int p.1 p.2) ++ freeNames.map .free)
def rcOf (K : PySem.W.Frag) (ds : List TDef) : Rc := ⟨K, fun j => match ds[j]? with
  | some d => He.fAd K (d.x, none)
  | none => 0⟩
theorem fact_mem {fa : List He.Fa} {fn : List He.DefD} {K : PySem.W.Frag} (c : He.SaysD fa fn K) {f : He.Fa} (h : f ∈ fa) : f.ok K = true := by
  obtain ⟨i, hi⟩ := List.mem_iff_getElem?.mp h
  exact c.fact i hi
theorem rcOf_at {K : PySem.W.Frag} {ds : List TDef} {j : Nat} {d : TDef} (h : ds[j]? = some d) : (rcOf K ds).fa j = He.fAd K (d.x, none) := by
  show (match ds[j]? with | some d => He.fAd K (d.x, none) | none => 0) = _
  rw [h]
theorem binds_at {K : PySem.W.Frag} {T : Tab} {d : TDef} {f : Addr} {fd : FuncData} (F : FunD K d.x d.x (defArgs d.st) (defBody d.st) (defScope d.st) (d.dd.dvs K) [] f fd) (o : d.Ok T) {n : Nat} (h1 : n ≤ d.mask.length) (h2 : d.mask.length ≤ n + d.dfl.length) :
    ∃ (ds : List Value) (dvs : List V), Binds K fd d.ps ds ∧ Vals dvs ds ∧ dvs = (d.dfl.drop (n + d.dfl.length - d.mask.length)).map fun d => (dvOf d).v K := by
  have len := o.len
  have hdv : d.dd.dvs K = d.dfl.map fun d => (dvOf d).v K := by
    show (d.dfl.map dvOf).map (He.Dv.v K) = _
    rw [List.map_map]
    rfl
  by_cases hd : d.dfl = []
  · have e : d.dd.dvs K = [] := by rw [hdv, hd]; rfl
    rw [e] at F
    exact ⟨[], [], F.bindsN (o.bind hd), .nil, by rw [hd, List.drop_nil]; rfl⟩
  · have hl : (d.dd.dvs K).length = d.dfl.length := by rw [hdv, List.length_map]
    have hn : d.dd.dvs K ≠ [] := fun e => hd (List.length_eq_zero_iff.mp (by rw [← hl, e]; rfl))
    have hp : 0 < d.dfl.length := List.length_pos_iff.mpr hd
    obtain ⟨ds, v, b⟩ := F.binds1 (ps := d.ps) n (n + d.dfl.length - d.mask.length) hn (by rw [hl]; omega) (fun T kV doc pm an cdv ct us its hu hi => o.bindD _ (by omega) hd T kV doc pm an cdv ct us its (by rw [hu]; omega) (hi.trans hl))
    exact ⟨ds, _, b, v, by rw [hdv, List.map_drop]⟩
theorem mod_ok {ds : List TDef} {cs : List (Str × Int)} {K : PySem.W.Frag} {h : Heap} {mg : Str → Option Value} (X : K.In h) (G : h.Ns mainGlobals mg) (c : He.SaysD (faL ds cs) (fnL ds) K) (ok : ∀ d ∈ ds, d.Ok (TOf ds cs)) :
    Mod (TOf ds cs) (tabOf ds) (rcOf K ds) mg ∧ ∀ (j : Nat) (d : TDef), ds[j]? = some d → d.dfl = [] → ∃ fd, DefF (TOf ds cs) (tabOf ds) (rcOf K ds) j fd d.ps ∧ mg d.x = some (.ref ((rcOf K ds).fa j)) ∧ (∀ (s : Shared) (us : List Value), us.length = d.ps.length → BindsTo s fd ⟨us, []⟩ (d.ps.zip us)) := by
  have glob : ∀ (j : Nat) (d : TDef), ds[j]? = some d → mg d.x = some (.ref ((rcOf K ds).fa j)) := fun j d hd => by
    rw [rcOf_at hd]
    exact He.glo_ok X G (fact_mem c (f := .glo d.x) (List.mem_append_left _ (List.mem_map.mpr ⟨d, List.mem_of_getElem? hd, rfl⟩)))
  have all : ∀ (j : Nat) (d : TDef), ds[j]? = some d → ∃ fd, DefF (TOf ds cs) (tabOf ds) (rcOf K ds) j fd d.ps ∧ FunD K d.x d.x (defArgs d.st) (defBody d.st) (defScope d.st) (d.dd.dvs K) [] ((rcOf K ds).fa j) fd := fun j d hd => by
    have o := ok d (List.mem_of_getElem? hd)
    obtain ⟨fd, F⟩ := c.def_ j (d := d.dd) (by unfold fnL; rw [List.getElem?_map, hd]; rfl)
    have F' : FunD K d.x d.x (defArgs d.st) (defBody d.st) (defScope d.st) (d.dd.dvs K) [] ((rcOf K ds).fa j) fd := by
      rw [rcOf_at hd]
      exact F
    refine ⟨fd, ⟨d.x, defArgs d.st, defBody d.st, defScope d.st, _, d.N, ⟨d.mask, d.N.length, d.code⟩, 40, 40, ?_, F', o.sc, o.len, rfl, o.comp⟩, F'⟩
    unfold tabOf
    rw [hd]
  refine ⟨⟨fun x n j ms dv hx => ?_, fun x d hx => ?_, fun x j hx => ?_, fun x hx => ?_, fun j hj => ?_⟩, fun j d hd h0 => ?_⟩
  · rcases findDef_at (show (j, ms, dv) ∈ findDef x n ds 0 [] from hx) with h | ⟨k, d, e1, e2, e3, e4, e5⟩
    · cases h
    · cases e1
      obtain ⟨fd, F, F'⟩ := all k d e2
      rw [Nat.zero_add]
      have o := ok d (List.mem_of_getElem? e2)
      obtain ⟨us, vs, b, v, e⟩ := binds_at F' o e4 e5
      refine ⟨fd, d.ps, F, by rw [← e3]; exact glob k d e2, us, vs, b, v, fun H => ?_⟩
      rw [e]
      exact simp_reps (R := rcOf K ds) (by rw [List.all_eq_true]; exact fun d' hd' => List.all_eq_true.mp o.simp d' (List.mem_of_mem_drop hd'))
  · unfold TOf at hx
    simp only at hx
    split at hx
    · rename_i i hi
      cases hx
      obtain ⟨t, ht⟩ := He.int_ok X G (fact_mem c (f := .int x i) (List.mem_append_right _ (List.mem_append_left _ (List.mem_map.mpr ⟨(x, i), lookC_mem hi, rfl⟩))))
      exact ⟨.int i, _, ht, ⟨t, rfl⟩, fun H => rfl⟩
    · cases hx
  · obtain ⟨k, d, e1, e2, e3⟩ := findFv_at hx
    rw [Nat.zero_add] at e1
    subst e1
    rw [← e3]
    exact glob _ d e2
  · exact He.free_ok X G (fact_mem c (f := .free x) (List.mem_append_right _ (List.mem_append_right _ (List.mem_map.mpr ⟨x, hx, rfl⟩))))
  · cases hd : ds[j]? with
    | none =>
      refine absurd ?_ hj
      unfold tabOf
      rw [hd]
    | some d =>
      obtain ⟨fd, F, F'⟩ := all j d hd
      obtain ⟨us, vs, b, v, e⟩ := binds_at F' (ok d (List.mem_of_getElem? hd)) (Nat.le_refl _) (Nat.le_add_right _ _)
      rw [show d.mask.length + d.dfl.length - d.mask.length = d.dfl.length by omega, List.drop_length] at e
      subst e
      cases v
      exact ⟨fd, d.ps, F, b⟩
  · obtain ⟨fd, F, F'⟩ := all j d hd
    have e : d.dd.dvs K = [] := by
      show (d.dfl.map dvOf).map (He.Dv.v K) = []
      rw [h0]
      rfl
    rw [e] at F'
    exact ⟨fd, F, glob j d hd, fun s us hl => F'.bindsA ((ok d (List.mem_of_getElem? hd)).bind h0) s us hl⟩
def spLaw (R : Rc) (tab : Nat → Option CDef) (k j : Nat) : Sp := fun vs H Q E => ∃ L, spO R (call tab L k) j vs H Q E
theorem law_fn {T : Tab} {tab : Nat → Option CDef} {R : Rc} {mg : Str → Option Value} {P : Program} {w : World} {base : Heap} (M : Mod T tab R mg) (k j : Nat) {fd : FuncData} {ps : List Str} (F : DefF T tab R j fd ps) : FnG P w R.K mg base k (R.fa j) fd ps (spLaw R tab k j) :=
  ⟨fun vs H Q E ⟨L, h⟩ => (defs_ok (P := P) (w := w) (base := base) (L := L) M k j fd ps F).len vs H Q E h, fun A outer s H args us vs Q E hgd hr h0 hb hv ⟨L, h⟩ => (defs_ok (P := P) (w := w) (base := base) (L := L) M k j fd ps F).go A outer s H args us vs Q E hgd hr h0 hb hv h⟩
theorem ints_reps {R : Rc} {H : Hp} : ∀ (ns : List Int), Reps R H (ns.map V.int) (ns.map D.int)
  | [] => trivial
  | n :: ns => ⟨rfl, ints_reps ns⟩
theorem spLaw_of {R : Rc} {tab : Nat → Option CDef} {k j : Nat} {ns : List Int} {a : Addr} {H : Hp} {E : XK} (hO : Only H) (hS : SqL R.K H a (ns.map V.int)) (h : ∃ L, call tab L k j [.val (.ls (ns.map D.int))] = some (.val (.bl true), [])) :
    spLaw R tab k j [.ref a] H (fun v _ => v = .bl true) E := by
  obtain ⟨L, h⟩ := h
  have fz : Fz R.K H a (ns.map V.int) := by
    rcases hS with (hS | hS) | hS
    · rcases hO a with e | ⟨o, xs, e⟩ <;> (rw [e] at hS; cases hS)
    · exact .inl hS
    · exact .inr hS
  refine ⟨L, [.val (.ls (ns.map D.int))], _, _, ⟨rep_ls.mpr ⟨a, _, rfl, fz, ints_reps ns⟩, trivial⟩, List.nodup_nil, h, fun v H' A => ?_⟩
  exact A.ret
end Pi

-- PiRun
set_option maxHeartbeats 4000000
namespace Pi
open PySem
section
variable {β : Type}
def bindE (x : Option (Slot × En)) (f : Slot → En → Option β) (_u : Dum f := ()) : Option β := match x with
  | some (s, e) => f s e
  | none => none
def bindO {α : Type} (x : Option α) (f : α → Option β) (_u : Dum f := ()) : Option β := match x with
  | some s => f s
  | none => none
def bindF (x : Option Flo) (f : En → Option Flo) (_u : Dum f := ()) : Option Flo := match x with
  | some (.nx e) => f e
  | y => y
def guardB (b : Bool) (x : Option β) (_u : Dum x := ()) : Option β := if b = true then x else none
theorem guardB_t {x : Option β} : guardB true x = x := rfl
theorem guardB_f {x : Option β} : guardB false x = none := rfl
theorem bindE_some {s : Slot} {e : En} {f : Slot → En → Option β} : bindE (some (s, e)) f = f s e := rfl
theorem bindE_none {f : Slot → En → Option β} : bindE none f = none := rfl
theorem bindV_none {f : D → En → Option β} : bindV none f = none := rfl
theorem bindB_none {f : Bool → En → Option β} : bindB none f = none := rfl
theorem bindO_some {α : Type} {s : α} {f : α → Option β} : bindO (some s) f = f s := rfl
theorem bindO_none {α : Type} {f : α → Option β} : bindO none f = none := rfl
theorem bindF_nx {e : En} {f : En → Option Flo} : bindF (some (.nx e)) f = f e := rfl
theorem bindF_rt {r : Slot} {e : En} {f : En → Option Flo} : bindF (some (.rt r e)) f = some (.rt r e) := rfl
theorem bindF_bk {e : En} {f : En → Option Flo} : bindF (some (.bk e)) f = some (.bk e) := rfl
theorem bindF_ct {e : En} {f : En → Option Flo} : bindF (some (.ct e)) f = some (.ct e) := rfl
theorem bindF_none {f : En → Option Flo} : bindF none f = none := rfl
end
section
variable (cl : Oracle) (L : Nat)
def doW (c : CE) (b : CSs) (m : Nat) (env : En) : Option Flo := whlLoop (evalT cl c) (evalSs cl L b) m env
def doF (t : Tg) (b : CSs) (xs : List D) (env : En) : Option Flo := forLoop (bodyAt t fun e => evalSs cl L b e) xs env
def doC (elt : CE) (t : Tg) (cond : CE) (vs : List Nat) (xs : List D) (env : En) (acc : List D) : Option (List D × En) := lcLoop (fun x e => match bindTg t x e with
        | some e3 => bindB (evalT cl cond e3) fun b e4 => if b then bindV (evalE cl elt e4) fun d e5 => (wipeEn e5 vs).map fun e6 => (some d, e6) else (wipeEn e4 vs).map fun e6 => (none, e6)
        | none => none) xs env acc
end
section
variable {cl : Oracle} {L : Nat} {env : En}
theorem r_var {i : Nat} : evalE cl (.var i) env = bindO env[i]? fun s => match s with
    | .val d => some (.val d, env)
    | .own ds => some (.val (.ls ds), env.set i (.val (.ls ds)))
    | _ => none := by
  rw [evalE]
  cases env[i]? with
  | none => rfl
  | some s => cases s <;> rfl
theorem r_cst {d : D} : evalE cl (.cst d) env = some (.val d, env) := by rw [evalE]
theorem r_gc {x : Str} {d : D} : evalE cl (.gc x d) env = some (.val d, env) := by rw [evalE]
theorem r_gf {x : Str} {j : Nat} : evalE cl (.gf x j) env = some (.val (.fn j), env) := by rw [evalE]
theorem r_bin {o : BOp} {a b : CE} : evalE cl (.bin o a b) env = bindV (evalE cl a env) fun x e1 => bindV (evalE cl b e1) fun y e2 => bindO (evalBin o x y) fun s => some (s, e2) := by
  rw [evalE]; first | rfl | (congr; funext x e1; congr; funext y e2; cases evalBin o x y <;> rfl)
theorem r_neg {a : CE} : evalE cl (.neg a) env = bindV (evalE cl a env) fun x e1 => match x with
    | .int i => some (.val (.int (-i)), e1)
    | _ => none := by rw [evalE] <;> rfl
theorem r_cmp {o : COp} {a b : CE} : evalE cl (.cmp o a b) env = bindV (evalE cl a env) fun x e1 => bindV (evalE cl b e1) fun y e2 => bindO (evalCmp o x y) fun s => some (.val (.bl s), e2) := by
  rw [evalE]; first | rfl | (congr; funext x e1; congr; funext y e2; cases evalCmp o x y <;> rfl)
theorem r_chain {o o' : COp} {a b c : CE} : evalE cl (.chain o o' a b c) env = bindV (evalE cl a env) fun x e1 => bindV (evalE cl b e1) fun y e2 => bindO (evalCmp o x y) fun k => if k = true then bindV (evalE cl c e2) fun z e3 => bindO (evalCmp o' y z) fun s => some (.val (.bl s), e3) else some (.val (.bl false), e2) := by
  rw [evalE]; first | rfl | (congr; funext x e1; congr; funext y e2)
  cases evalCmp o x y with
  | none => rfl
  | some k =>
    cases k
    · rfl
    · show bindV _ _ = _
      simp only [bindO_some, if_true]
      first | rfl | (congr; funext z e3; cases evalCmp o' y z <;> rfl)
theorem r_isN {n : Bool} {a : CE} : evalE cl (.isN n a) env = bindV (evalE cl a env) fun x e1 => some (.val (.bl (if n then !x.isNon else x.isNon)), e1) := by rw [evalE]
theorem r_and {a b : CE} : evalE cl (.and a b) env = bindV (evalE cl a env) fun x e1 => match x with
    | .bl true => bindV (evalE cl b e1) fun y e2 => some (.val y, e2)
    | .bl false => some (.val (.bl false), e1)
    | _ => none := by rw [evalE] <;> rfl
theorem r_or {a b : CE} : evalE cl (.or a b) env = bindV (evalE cl a env) fun x e1 => match x with
    | .bl false => bindV (evalE cl b e1) fun y e2 => some (.val y, e2)
    | .bl true => some (.val (.bl true), e1)
    | _ => none := by rw [evalE] <;> rfl
theorem r_not {a : CE} : evalE cl (.not a) env = bindV (evalE cl a env) fun x e1 => bindO x.truth fun b => some (.val (.bl (!b)), e1) := by
  rw [evalE]; first | rfl | (congr; funext x e1; cases x.truth <;> rfl)
theorem r_ife {c a b : CE} : evalE cl (.ife c a b) env = bindB (evalT cl c env) fun x e1 => if x = true then evalE cl a e1 else evalE cl b e1 := by rw [evalE]
theorem r_tup {es : CEs} : evalE cl (.tup es) env = bindDs (evalEs cl es env) fun ds e1 => guardB (decide (ds.length ≤ sizeLine)) (some (.val (.tup ds), e1)) := by
  rw [evalE]; congr; funext ds e1; unfold guardB; simp
theorem r_lst {es : CEs} : evalE cl (.lst es) env = bindDs (evalEs cl es env) fun ds e1 => guardB (decide (ds.length ≤ sizeLine)) (some (.own ds, e1)) := by
  rw [evalE]; congr; funext ds e1; unfold guardB; simp
theorem r_ix {a i : CE} : evalE cl (.ix a i) env = bindV (evalE cl a env) fun x e1 => bindV (evalE cl i e1) fun y e2 => bindO (ixD x y) fun d => some (.val d, e2) := by
  rw [evalE]; first | rfl | (congr; funext x e1; congr; funext y e2; cases ixD x y <;> rfl)
theorem r_ixv {k : Nat} {i : CE} : evalE cl (.ixv k i) env = guardB (readAt env k).isSome (bindV (evalE cl i env) fun y e1 => bindO (readAt e1 k) fun x => bindO (ixD x y) fun d => some (.val d, e1)) := by
  rw [evalE]
  unfold guardB
  congr; funext y e1
  cases readAt e1 k with
  | none => rfl
  | some x => show Option.map _ (ixD x y) = bindO (ixD x y) _; cases ixD x y <;> rfl
theorem r_sl {a lo hi : CE} : evalE cl (.sl a lo hi) env = bindV (evalE cl a env) fun x e1 => bindV (evalE cl lo e1) fun l e2 => bindV (evalE cl hi e2) fun h e3 => bindO (slD x l h) fun s => some (s, e3) := by
  rw [evalE]; first | rfl | (congr; funext x e1; congr; funext y e2; congr; funext z e3; cases slD x y z <;> rfl)
theorem r_slv {k : Nat} {lo hi : CE} : evalE cl (.slv k lo hi) env = guardB (readAt env k).isSome (bindV (evalE cl lo env) fun l e2 => bindV (evalE cl hi e2) fun h e3 => bindO (readAt e3 k) fun x => bindO (slD x l h) fun s => some (s, e3)) := by
  rw [evalE]
  unfold guardB
  congr; funext y e1; congr; funext z e3
  cases readAt e3 k with
  | none => rfl
  | some x => show Option.map _ (slD x y z) = bindO (slD x y z) _; cases slD x y z <;> rfl
theorem r_rev {a : CE} : evalE cl (.rev a) env = bindV (evalE cl a env) fun x e1 => bindO (revD x) fun s => some (s, e1) := by
  rw [evalE]; first | rfl | (congr; funext x e1; cases revD x <;> rfl)
theorem r_call {j : Nat} {es : CEs} {dv : List D} : evalE cl (.call j es dv) env = bindSs (evalAs cl es env) fun ss e1 => bindO (cl j (ss ++ dv.map .val)) fun p => bindO (putLists e1 (iosOf es) p.2) fun e2 => some (p.1, e2) := by
  rw [evalE]; first | rfl | (congr; funext ss e1)
  cases cl j (ss ++ dv.map .val) with
  | none => rfl
  | some p => obtain ⟨r, outs⟩ := p; show Option.map _ (putLists e1 (iosOf es) outs) = bindO (putLists e1 (iosOf es) outs) _; cases putLists e1 (iosOf es) outs <;> rfl
theorem r_bi {b : BI} {es : CEs} : evalE cl (.bi b es) env = bindDs (evalEs cl es env) fun ds e1 => bindO (evalBI b ds) fun s => some (s, e1) := by
  rw [evalE]; first | rfl | (congr; funext ds e1; cases evalBI b ds <;> rfl)
theorem r_lenv {k : Nat} : evalE cl (.lenv k) env = bindO (readAt env k) fun d => bindO (evalBI .len [d]) fun s => some (s, env) := by
  rw [evalE]
  cases readAt env k with
  | none => rfl
  | some d => show Option.map _ (evalBI .len [d]) = bindO (evalBI .len [d]) _; cases evalBI .len [d] <;> rfl
theorem r_isi {a : CE} {t : Ty} : evalE cl (.isi a t) env = bindV (evalE cl a env) fun x e1 => bindO (isTy t x) fun b => some (.val (.bl b), e1) := by
  rw [evalE]; first | rfl | (congr; funext x e1; cases isTy t x <;> rfl)
theorem r_lc {elt : CE} {tg : Tg} {it : CI} {cond : CE} {vs : List Nat} : evalE cl (.lc elt tg it cond vs) env = bindDs (evalI cl it env) fun xs e1 => bindO (wipeEn e1 vs) fun e2 => bindO (doC cl elt tg cond vs xs e2 []) fun p => some (.own p.1, restore e1 p.2 vs) := by
  rw [evalE]; first | rfl | (congr; funext xs e1)
  cases wipeEn e1 vs with
  | none => rfl
  | some e2 => show Option.map _ (doC cl elt tg cond vs xs e2 []) = bindO (doC cl elt tg cond vs xs e2 []) _; cases doC cl elt tg cond vs xs e2 [] <;> rfl
theorem r_pop {i : Nat} : evalE cl (.pop i) env = bindO (listAt env i) fun ds => bindO ds.getLast? fun d => bindO (putList env i ds.dropLast) fun e1 => some (.val d, e1) := by
  rw [evalE]
  cases listAt env i with
  | none => rfl
  | some ds =>
    show (match ds.getLast? with | some d => _ | none => none) = bindO ds.getLast? _
    cases ds.getLast? with
    | none => rfl
    | some d => show Option.map _ (putList env i ds.dropLast) = bindO (putList env i ds.dropLast) _; cases putList env i ds.dropLast <;> rfl
theorem r_callv {i : Nat} {es : CEs} : evalE cl (.callv i es) env = bindO env[i]? fun s => match s with
    | .val (.fn j) => bindSs (evalAs cl es env) fun ss e1 => bindO (cl j ss) fun p => bindO (putLists e1 (iosOf es) p.2) fun e2 => some (p.1, e2)
    | _ => none := by
  rw [evalE]
  cases env[i]? with
  | none => rfl
  | some s =>
    cases s with
    | val d =>
      cases d <;> try rfl
      rename_i j
      show bindSs _ _ = bindSs _ _
      first | rfl | (congr; funext ss e1)
      cases cl j ss with
      | none => rfl
      | some p => obtain ⟨r, o⟩ := p; show Option.map _ (putLists e1 (iosOf es) o) = bindO (putLists e1 (iosOf es) o) _; cases putLists e1 (iosOf es) o <;> rfl
    | nil => rfl
    | own _ => rfl
    | io _ => rfl
theorem r_enil : evalEs cl .nil env = some ([], env) := by rw [evalEs]
theorem r_econs {e : CE} {es : CEs} : evalEs cl (.cons e es) env = bindV (evalE cl e env) fun d e1 => bindDs (evalEs cl es e1) fun ds e2 => some (d :: ds, e2) := by rw [evalEs]
theorem r_anil : evalAs cl .nil env = some ([], env) := by rw [evalAs]
theorem r_aio {i : Nat} {es : CEs} : evalAs cl (.cons (.io i) es) env = guardB (listAt env i).isSome (bindSs (evalAs cl es env) fun ss e1 => bindO (listAt e1 i) fun ds => some (.own ds :: ss, e1)) := by
  rw [evalAs]
  unfold guardB
  congr; funext ss e1
  cases listAt e1 i <;> rfl
def ioB : CE → Bool
  | .io _ => true
  | _ => false
theorem r_acons {e : CE} {es : CEs} (h : ioB e = false) : evalAs cl (.cons e es) env = bindV (evalE cl e env) fun d e1 => bindSs (evalAs cl es e1) fun ds e2 => some (.val d :: ds, e2) := by
  cases e <;> first | cases h; done | rw [evalAs]
  all_goals (intro i hi; cases hi)
theorem t_and' {a b : CE} : evalT cl (.and a b) env = bindB (evalT cl a env) fun x e1 => if x = true then evalT cl b e1 else some (false, e1) := by rw [evalT]
theorem t_or' {a b : CE} : evalT cl (.or a b) env = bindB (evalT cl a env) fun x e1 => if x = true then some (true, e1) else evalT cl b e1 := by rw [evalT]
theorem t_not' {a : CE} : evalT cl (.not a) env = bindB (evalT cl a env) fun x e1 => some (!x, e1) := by rw [evalT]
theorem t_var' {i : Nat} : evalT cl (.var i) env = bindO (readAt env i) fun d => bindO d.truth fun b => some (b, env) := by
  rw [evalT]
  cases readAt env i with
  | none => rfl
  | some d => show Option.map _ d.truth = bindO d.truth _; cases d.truth <;> rfl
theorem t_cst {b : Bool} : evalT cl (.cst (.bl b)) env = some (b, env) := by rw [evalT]
def byV : CE → Bool
  | .bin .. | .neg .. | .cmp .. | .chain .. | .isN .. | .ix .. | .ixv .. | .call .. | .bi .. | .isi .. => true
  | _ => false
theorem t_val' {c : CE} (h : byV c = true) : evalT cl c env = bindV (evalE cl c env) fun d e1 => bindO d.truth fun b => some (b, e1) := by
  have e : ∀ (x : Option (Slot × En)), (bindV x fun d e1 => d.truth.map fun b => (b, e1)) = bindV x fun d e1 => bindO d.truth fun b => some (b, e1) := fun x => by
    rfl
  cases c <;> first | exact absurd h Bool.false_ne_true | (rw [evalT]; exact e _)
theorem r_sq {e : CE} : evalI cl (.sq e) env = bindV (evalE cl e env) fun d e1 => bindO d.items fun ds => some (ds, e1) := by
  rw [evalI]; first | rfl | (congr; funext d e1; cases d.items <;> rfl)
theorem r_rg1 {a : CE} : evalI cl (.rg1 a) env = bindV (evalE cl a env) fun d e1 => match d with
    | .int j => guardB (decide (Small j ∧ j ≤ sizeLine)) (some (rangeD 0 j.toNat, e1))
    | _ => none := by
  rw [evalI]; congr; funext d e1; cases d <;> first | rfl | (unfold guardB; simp)
theorem r_rg2 {a b : CE} : evalI cl (.rg2 a b) env = bindV (evalE cl a env) fun d e1 => bindV (evalE cl b e1) fun d' e2 => match d, d' with
    | .int i, .int j => guardB (decide (Small i ∧ Small j ∧ j - i ≤ sizeLine)) (some (rangeD i (j - i).toNat, e2))
    | _, _ => none := by
  rw [evalI]; congr; funext d e1; congr; funext d' e2; cases d <;> cases d' <;> first | rfl | (unfold guardB; simp)
theorem r_rg3 {a b c : CE} : evalI cl (.rg3 a b c) env = bindV (evalE cl a env) fun d e1 => bindV (evalE cl b e1) fun d' e2 => bindV (evalE cl c e2) fun d'' e3 => match d, d', d'' with
    | .int i, .int j, .int c => bindO (rangeStep i j c) fun ds => some (ds, e3)
    | _, _, _ => none := by
  rw [evalI]; first | rfl | (congr; funext d e1; congr; funext d' e2; congr; funext d'' e3; cases d <;> cases d' <;> cases d'' <;> rfl)
theorem r_en {e : CE} : evalI cl (.en e) env = bindV (evalE cl e env) fun d e1 => match d with
    | .ls ds => some (enumD ds, e1)
    | _ => none := by rw [evalI] <;> rfl
theorem r_zip {a b : CE} : evalI cl (.zip a b) env = bindV (evalE cl a env) fun d e1 => bindV (evalE cl b e1) fun d' e2 => match d, d' with
    | .tup xs, .tup ys => some (zipD xs ys, e2)
    | .ls xs, .ls ys => some (zipD xs ys, e2)
    | _, _ => none := by rw [evalI] <;> rfl
theorem r_snil : evalSs cl L .nil env = some (.nx env) := by rw [evalSs]
theorem r_scons {s : CS} {ss : CSs} : evalSs cl L (.cons s ss) env = bindF (evalS cl L s env) fun e1 => evalSs cl L ss e1 := by
  rw [evalSs]
  cases evalS cl L s env with
  | none => rfl
  | some f => cases f <;> rfl
theorem r_asg {i : Nat} {e : CE} : evalS cl L (.asg (.nm i) e) env = bindE (evalE cl e env) fun s e1 => bindO (setSlot e1 i s) fun e2 => some (.nx e2) := by
  rw [evalS]
  cases evalE cl e env with
  | none => rfl
  | some p => obtain ⟨s, e1⟩ := p; show Option.map _ (setSlot e1 i s) = bindO (setSlot e1 i s) _; cases setSlot e1 i s <;> rfl
theorem r_asgt {is : List Nat} {e : CE} : evalS cl L (.asg (.tp is) e) env = bindV (evalE cl e env) fun d e1 => bindO (bindTg (.tp is) d e1) fun e2 => some (.nx e2) := by
  rw [evalS]; first | rfl | (congr; funext d e1; cases bindTg (.tp is) d e1 <;> rfl)
theorem r_lnil : evalSl cl .nil env = some ([], env) := by rw [evalSl]
theorem r_lcons {e : CE} {es : CEs} : evalSl cl (.cons e es) env = bindE (evalE cl e env) fun s e1 => bindSs (evalSl cl es e1) fun ss e2 => some (s :: ss, e2) := by
  rw [evalSl]
  cases evalE cl e env with
  | none => rfl
  | some p => rfl
theorem r_asl {is : List Nat} {es : CEs} : evalS cl L (.asl is es) env = bindSs (evalSl cl es env) fun ss e1 => bindO (setSlots e1 is ss) fun e2 => some (.nx e2) := by
  rw [evalS]; first | rfl | (congr; funext ss e1; cases setSlots e1 is ss <;> rfl)
theorem r_setix {i : Nat} {k e : CE} : evalS cl L (.setix i k e) env = bindV (evalE cl e env) fun d e1 => guardB (listAt e1 i).isSome (bindV (evalE cl k e1) fun y e2 => bindO (listAt e2 i) fun ds => match y with
    | .int n => bindO (L2.ixN ds.length n) fun j => bindO (putList e2 i (ds.set j d)) fun e3 => some (.nx e3)
    | _ => none) := by
  rw [evalS]; first | rfl | (congr; funext d e1)
  unfold guardB
  congr; funext y e2
  cases listAt e2 i with
  | none => cases y <;> rfl
  | some ds =>
    cases y <;> try rfl
    rename_i n
    show (match L2.ixN ds.length n with | some j => _ | none => none) = bindO (L2.ixN ds.length n) _
    cases L2.ixN ds.length n with
    | none => rfl
    | some j => show Option.map _ (putList e2 i (ds.set j d)) = bindO (putList e2 i (ds.set j d)) _; cases putList e2 i (ds.set j d) <;> rfl
theorem r_app {i : Nat} {e : CE} : evalS cl L (.app i e) env = guardB (listAt env i).isSome (bindV (evalE cl e env) fun d e1 => bindO (listAt e1 i) fun ds => guardB (decide (ds.length < sizeLine)) (bindO (putList e1 i (ds ++ [d])) fun e2 => some (.nx e2))) := by
  rw [evalS]
  unfold guardB
  congr; funext d e1
  cases listAt e1 i with
  | none => rfl
  | some ds =>
    show (if ds.length < sizeLine then Option.map _ (putList e1 i (ds ++ [d])) else none) = if decide (ds.length < sizeLine) = true then bindO (putList e1 i (ds ++ [d])) _ else none
    simp only [decide_eq_true_eq]
    rfl
theorem r_ext {i : Nat} {e : CE} : evalS cl L (.ext i e) env = guardB (listAt env i).isSome (bindE (evalE cl e env) fun s e1 => match s with
    | .own zs => bindO (listAt e1 i) fun ds => guardB (decide (ds.length + zs.length ≤ sizeLine)) (bindO (putList e1 i (ds ++ zs)) fun e2 => some (.nx e2))
    | _ => none) := by
  rw [evalS]
  unfold guardB
  congr
  cases evalE cl e env with
  | none => rfl
  | some p =>
    obtain ⟨s, e1⟩ := p
    cases s <;> try rfl
    rename_i zs
    show (match listAt e1 i with | some ds => _ | none => none) = bindO (listAt e1 i) _
    cases listAt e1 i with
    | none => rfl
    | some ds =>
      show (if ds.length + zs.length ≤ sizeLine then Option.map _ (putList e1 i (ds ++ zs)) else none) = if decide (ds.length + zs.length ≤ sizeLine) = true then bindO (putList e1 i (ds ++ zs)) _ else none
      simp only [decide_eq_true_eq]
      rfl
theorem r_drop {e : CE} : evalS cl L (.drop e) env = bindE (evalE cl e env) fun _ e1 => some (.nx e1) := by
  rw [evalS]
  cases evalE cl e env <;> rfl
theorem r_ret {e : CE} : evalS cl L (.ret e) env = bindE (evalE cl e env) fun s e1 => some (.rt s e1) := by
  rw [evalS]
  cases evalE cl e env <;> rfl
theorem r_retv {i : Nat} : evalS cl L (.retv i) env = bindO env[i]? fun s => match s with
    | .val d => some (.rt (.val d) env)
    | .own ds => some (.rt (.own ds) (env.set i .nil))
    | _ => none := by
  rw [evalS]
  cases env[i]? with
  | none => rfl
  | some s => cases s <;> rfl
theorem r_ret0 : evalS cl L .ret0 env = some (.rt (.val .non) env) := by rw [evalS]
theorem r_if {c : CE} {a b : CSs} : evalS cl L (.ife c a b) env = bindB (evalT cl c env) fun x e1 => if x = true then evalSs cl L a e1 else evalSs cl L b e1 := by rw [evalS]
theorem r_whl {c : CE} {b : CSs} : evalS cl L (.whl c b) env = doW cl L c b L env := by rw [evalS] <;> rfl
theorem r_fr {t : Tg} {it : CI} {b : CSs} : evalS cl L (.fr t it b) env = bindDs (evalI cl it env) fun xs e1 => doF cl L t b xs e1 := by rw [evalS] <;> rfl
theorem r_brk : evalS cl L .brk env = some (.bk env) := by rw [evalS]
theorem r_cnt : evalS cl L .cnt env = some (.ct env) := by rw [evalS]
theorem r_pass : evalS cl L .pass env = some (.nx env) := by rw [evalS]
theorem r_raise : evalS cl L .raise env = none := by rw [evalS]
theorem r_try {b : CSs} : evalS cl L (.try_ b) env = evalSs cl L b env := by rw [evalS]
theorem r_run {d : CDef} {args : List Slot} : runDef cl L d args = bindO (argSlots d.mask args) fun ss => bindO (evalSs cl L d.body (ss ++ List.replicate (d.size - ss.length) .nil)) fun f => match f with
    | .nx e => bindO (outsOf d.mask e) fun o => some (.val .non, o)
    | .rt r e => bindO (outsOf d.mask e) fun o => some (r, o)
    | _ => none := by
  unfold runDef
  cases argSlots d.mask args with
  | none => rfl
  | some ss =>
    simp only [bindO_some]
    cases evalSs cl L d.body (ss ++ List.replicate (d.size - ss.length) .nil) with
    | none => rfl
    | some f =>
      cases f <;> try rfl
      all_goals
        rename_i e
        show Option.map _ (outsOf d.mask e) = bindO (outsOf d.mask e) _
        cases outsOf d.mask e <;> rfl
theorem w_succ {c : CE} {b : CSs} {m : Nat} : doW cl L c b (m + 1) env = bindB (evalT cl c env) fun x e1 => if x = true then (match evalSs cl L b e1 with
      | some (.nx e2) => doW cl L c b m e2
      | some (.ct e2) => doW cl L c b m e2
      | some (.bk e2) => some (.nx e2)
      | some (.rt r e2) => some (.rt r e2)
      | none => none) else some (.nx e1) := by
  show whlLoop _ _ (m + 1) env = _
  rw [whlLoop]
  cases evalT cl c env with
  | none => rfl
  | some p =>
    obtain ⟨x, e1⟩ := p
    cases x
    · rfl
    · show (match evalSs cl L b e1 with | some (.nx e2) => _ | some (.ct e2) => _ | some (.bk e2) => _ | some (.rt r e2) => _ | none => _) = _
      rfl
theorem f_nil {t : Tg} {b : CSs} : doF cl L t b [] env = some (.nx env) := rfl
theorem f_cons {t : Tg} {b : CSs} {x : D} {xs : List D} : doF cl L t b (x :: xs) env = bindO (bindTg t x env) fun e1 => match evalSs cl L b e1 with
      | some (.nx e2) => doF cl L t b xs e2
      | some (.ct e2) => doF cl L t b xs e2
      | some (.bk e2) => some (.nx e2)
      | some (.rt r e2) => some (.rt r e2)
      | none => none := by
  show forLoop _ (x :: xs) env = _
  rw [forLoop]
  unfold bodyAt
  cases bindTg t x env <;> rfl
theorem f_step {t : Tg} {b : CSs} {x : D} {xs : List D} {e2 : En} (h : (bindO (bindTg t x env) fun e => evalSs cl L b e) = some (.nx e2)) : doF cl L t b (x :: xs) env = doF cl L t b xs e2 := by
  rw [f_cons]
  cases hb : bindTg t x env with
  | none => rw [hb] at h; cases h
  | some e =>
    rw [hb] at h
    rw [bindO_some] at h ⊢
    rw [h]
theorem f_stop {t : Tg} {b : CSs} {x : D} {xs : List D} {r : Slot} {e2 : En} (h : (bindO (bindTg t x env) fun e => evalSs cl L b e) = some (.rt r e2)) : doF cl L t b (x :: xs) env = some (.rt r e2) := by
  rw [f_cons]
  cases hb : bindTg t x env with
  | none => rw [hb] at h; cases h
  | some e =>
    rw [hb] at h
    rw [bindO_some] at h ⊢
    rw [h]
theorem d_nil {elt : CE} {t : Tg} {cond : CE} {vs : List Nat} {acc : List D} : doC cl elt t cond vs [] env acc = some (acc, env) := rfl
def stepC (cl : Oracle) (elt : CE) (t : Tg) (cond : CE) (vs : List Nat) (x : D) (env : En) : Option (Option D × En) := bindO (bindTg t x env) fun e3 => bindB (evalT cl cond e3) fun b e4 => if b = true then bindV (evalE cl elt e4) fun d e5 => bindO (wipeEn e5 vs) fun e6 => some (some d, e6) else bindO (wipeEn e4 vs) fun e6 => some (none, e6)
theorem d_cons {elt : CE} {t : Tg} {cond : CE} {vs : List Nat} {x : D} {xs acc : List D} : doC cl elt t cond vs (x :: xs) env acc = bindO (stepC cl elt t cond vs x env) fun p => doC cl elt t cond vs xs p.2 (match p.1 with | some d => acc ++ [d] | none => acc) := by
  have e : (match bindTg t x env with
        | some e3 => bindB (evalT cl cond e3) fun b e4 => if b then bindV (evalE cl elt e4) fun d e5 => (wipeEn e5 vs).map fun e6 => (some d, e6) else (wipeEn e4 vs).map fun e6 => (none, e6)
        | none => none) = stepC cl elt t cond vs x env := by
    unfold stepC
    cases bindTg t x env with
    | none => rfl
    | some e3 =>
      simp only [bindO_some]
      rfl
  unfold doC
  rw [lcLoop]
  rw [e]
  cases stepC cl elt t cond vs x env with
  | none => rfl
  | some p => obtain ⟨o, e6⟩ := p; cases o <;> rfl
end
end Pi
namespace Pi
open PySem
def nio : Slot → Bool
  | .io _ => false
  | _ => true
theorem nio_val {d : D} : nio (.val d) = true := rfl
theorem nio_own {d : List D} : nio (.own d) = true := rfl
theorem nio_nil : nio .nil = true := rfl
theorem nio_io {d : List D} : nio (.io d) = false := rfl
def canSet : En → Nat → Bool
  | [], _ => false
  | s :: _, 0 => nio s
  | _ :: es, i + 1 => canSet es i
theorem setSlot_can (env : En) (i : Nat) (s : Slot) : setSlot env i s = guardB (canSet env i) (some (env.set i s)) := by
  unfold setSlot guardB
  induction env generalizing i with
  | nil => rfl
  | cons x xs ih =>
    cases i with
    | zero => cases x <;> rfl
    | succ i =>
      simp only [List.getElem?_cons_succ, List.set_cons_succ]
      have q := ih i
      by_cases h : canSet xs i = true
      · rw [if_pos h] at q
        rw [if_pos (show canSet (x :: xs) (i + 1) = true from h)]
        cases hx : xs[i]? with
        | none => rw [hx] at q; cases q
        | some y => rw [hx] at q; cases y <;> first | rfl | cases q
      · rw [if_neg h] at q
        rw [if_neg (show ¬ canSet (x :: xs) (i + 1) = true from h)]
        cases hx : xs[i]? with
        | none => rfl
        | some y => rw [hx] at q; cases y <;> first | rfl | cases q
theorem setSlots_nil (env : En) : setSlots env [] [] = some env := rfl
theorem setSlots_cons (env : En) (i : Nat) (is : List Nat) (s : Slot) (ss : List Slot) : setSlots env (i :: is) (s :: ss) = bindO (setSlot env i s) fun e => setSlots e is ss := by
  rw [setSlots]
  cases setSlot env i s <;> rfl
theorem putLists_nil (env : En) : putLists env [] [] = some env := rfl
theorem putLists_cons (env : En) (i : Nat) (is : List Nat) (s : List D) (ss : List (List D)) : putLists env (i :: is) (s :: ss) = bindO (putList env i s) fun e => putLists e is ss := by
  rw [putLists]
  cases putList env i s <;> rfl
theorem putList_eq (env : En) (i : Nat) (ds : List D) : putList env i ds = bindO env[i]? fun s => match s with
    | .own _ => some (env.set i (.own ds))
    | .io _ => some (env.set i (.io ds))
    | _ => none := by
  unfold putList
  cases env[i]? with
  | none => rfl
  | some s => cases s <;> rfl
theorem readAt_eq (env : En) (i : Nat) : readAt env i = bindO env[i]? Slot.read := by
  unfold readAt
  cases env[i]? <;> rfl
theorem listAt_eq (env : En) (i : Nat) : listAt env i = bindO env[i]? Slot.list := by
  unfold listAt
  cases env[i]? <;> rfl
theorem wipe_nil (env : En) : wipeEn env [] = some env := rfl
theorem wipe_cons (env : En) (v : Nat) (vs : List Nat) : wipeEn env (v :: vs) = bindO (wipeEn env vs) fun e => setSlot e v .nil := by
  rw [wipeEn]
  cases wipeEn env vs <;> rfl
theorem restore_nil (old env : En) : restore old env [] = env := rfl
theorem restore_cons {old env : En} {v : Nat} {vs : List Nat} {s : Slot} (h : old[v]? = some s) : restore old env (v :: vs) = (restore old env vs).set v s := by
  rw [restore, h]
def setO (o : Option Slot) (env : En) (v : Nat) : En := match o with
  | some s => env.set v s
  | none => env
theorem setO_some {s : Slot} {env : En} {v : Nat} : setO (some s) env v = env.set v s := rfl
theorem restore_eq {old env : En} {v : Nat} {vs : List Nat} : restore old env (v :: vs) = setO old[v]? (restore old env vs) v := by
  rw [restore]
  cases old[v]? <;> rfl
theorem argS_nil : argSlots [] [] = some [] := rfl
theorem argS_t {ms : List Bool} {ds : List D} {ss : List Slot} : argSlots (true :: ms) (.own ds :: ss) = bindO (argSlots ms ss) fun r => some (.io ds :: r) := rfl
theorem argS_f {ms : List Bool} {d : D} {ss : List Slot} : argSlots (false :: ms) (.val d :: ss) = bindO (argSlots ms ss) fun r => some (.val d :: r) := rfl
theorem outs_nil {e : En} : outsOf [] e = some [] := by cases e <;> rfl
theorem outs_t {ms : List Bool} {ds : List D} {e : En} : outsOf (true :: ms) (.io ds :: e) = bindO (outsOf ms e) fun r => some (ds :: r) := rfl
theorem outs_f {ms : List Bool} {s : Slot} {e : En} : outsOf (false :: ms) (s :: e) = outsOf ms e := by cases s <;> rfl
theorem mulOk_l {i j : Int} (h1 : -(2 ^ 64) < i) (h2 : i < 2 ^ 64) : MulOk i j := .inl (.inl ⟨h1, h2⟩)
theorem mulOk_r {i j : Int} (h1 : -(2 ^ 64) < j) (h2 : j < 2 ^ 64) : MulOk i j := .inl (.inr ⟨h1, h2⟩)
theorem divOk_of {j : Int} (h1 : 0 < j) (h2 : j < 2 ^ 64) : DivOk j := ⟨h1, by
  have : j.natAbs < 2 ^ 64 := by omega
  have := (Nat.log2_lt (by omega)).mpr this
  omega⟩
theorem at_nat {ds : List D} {k : Nat} {x : D} (h : ds[k]? = some x) : L2.atI ds (k : Int) = some x := by
  have hk := (List.getElem?_eq_some_iff.mp h).1
  unfold L2.atI L2.ixN
  rw [if_pos (by omega), if_pos (by omega)]
  exact h
theorem at0 (x : D) (ds : List D) : L2.atI (x :: ds) 0 = some x := at_nat (k := 0) rfl
theorem at1 (x y : D) (ds : List D) : L2.atI (x :: y :: ds) 1 = some y := at_nat (k := 1) rfl
theorem at2 (x y z : D) (ds : List D) : L2.atI (x :: y :: z :: ds) 2 = some z := at_nat (k := 2) rfl
theorem at3 (x y z w : D) (ds : List D) : L2.atI (x :: y :: z :: w :: ds) 3 = some w := at_nat (k := 3) rfl
theorem eqv_str {i j : Str} : evalCmp .eq (.str i) (.str j) = some (i == j) := rfl
theorem nev_str {i j : Str} : evalCmp .ne (.str i) (.str j) = some (!(i == j)) := rfl
theorem eqv_int {i j : Int} : evalCmp .eq (.int i) (.int j) = some (i == j) := rfl
theorem nev_int {i j : Int} : evalCmp .ne (.int i) (.int j) = some (!(i == j)) := rfl
theorem lt_int {i j : Int} : evalCmp .lt (.int i) (.int j) = some (decide (i < j)) := rfl
theorem le_int {i j : Int} : evalCmp .le (.int i) (.int j) = some (decide (i ≤ j)) := rfl
theorem gt_int {i j : Int} : evalCmp .gt (.int i) (.int j) = some (decide (j < i)) := rfl
theorem ge_int {i j : Int} : evalCmp .ge (.int i) (.int j) = some (decide (j ≤ i)) := rfl
theorem eqv_bl {i j : Bool} : evalCmp .eq (.bl i) (.bl j) = some (i == j) := rfl
theorem nev_bl {i j : Bool} : evalCmp .ne (.bl i) (.bl j) = some (!(i == j)) := rfl
theorem add_int {i j : Int} : evalBin .add (.int i) (.int j) = some (.val (.int (i + j))) := rfl
theorem sub_int {i j : Int} : evalBin .sub (.int i) (.int j) = some (.val (.int (i - j))) := rfl
theorem mul_int {i j : Int} : evalBin .mul (.int i) (.int j) = guardB (decide (MulOk i j)) (some (.val (.int (i * j)))) := by
  show (if MulOk i j then _ else none) = _
  unfold guardB
  simp
theorem fdiv_int {i j : Int} (h : DivOk j) : evalBin .fdiv (.int i) (.int j) = some (.val (.int (i / j))) := if_pos h
theorem mod_int {i j : Int} (h : 0 < j) : evalBin .mod (.int i) (.int j) = some (.val (.int (i % j))) := if_pos h
theorem add_tup {xs ys : List D} : evalBin .add (.tup xs) (.tup ys) = guardB (decide (xs.length + ys.length ≤ sizeLine)) (some (.val (.tup (xs ++ ys)))) := by
  show (if xs.length + ys.length ≤ sizeLine then _ else none) = _
  unfold guardB
  simp
theorem add_ls {xs ys : List D} : evalBin .add (.ls xs) (.ls ys) = guardB (decide (xs.length + ys.length ≤ sizeLine)) (some (.own (xs ++ ys))) := by
  show (if xs.length + ys.length ≤ sizeLine then _ else none) = _
  unfold guardB
  simp
theorem len_ls {xs : List D} : evalBI .len [.ls xs] = some (.val (.int xs.length)) := rfl
theorem len_tup {xs : List D} : evalBI .len [.tup xs] = some (.val (.int xs.length)) := rfl
theorem abs_int {i : Int} : evalBI .abs [.int i] = some (.val (.int (if i < 0 then -i else i))) := rfl
theorem int_int {i : Int} : evalBI .int [.int i] = some (.val (.int i)) := rfl
theorem list_ls {xs : List D} : evalBI .list [.ls xs] = some (.own xs) := rfl
theorem list_tup {xs : List D} : evalBI .list [.tup xs] = some (.own xs) := rfl
theorem ix_tup {ds : List D} {k : Int} : ixD (.tup ds) (.int k) = L2.atI ds k := rfl
theorem ix_ls {ds : List D} {k : Int} : ixD (.ls ds) (.int k) = L2.atI ds k := rfl
theorem sl_tup {ds : List D} {l h : D} {a b : Option Int} (e1 : partD l = some a) (e2 : partD h = some b) : slD (.tup ds) l h = some (.val (.tup (cutD ds a b))) := by unfold slD; rw [e1, e2]
theorem sl_ls {ds : List D} {l h : D} {a b : Option Int} (e1 : partD l = some a) (e2 : partD h = some b) : slD (.ls ds) l h = some (.own (cutD ds a b)) := by unfold slD; rw [e1, e2]
theorem part_non : partD .non = some none := rfl
theorem part_int {i : Int} : partD (.int i) = some (some i) := rfl
theorem tg_nm {i : Nat} {d : D} {env : En} : bindTg (.nm i) d env = setSlot env i (.val d) := rfl
theorem tg_tup {is : List Nat} {ds : List D} {env : En} : bindTg (.tp is) (.tup ds) env = guardB (decide (is.length = ds.length)) (setSlots env is (ds.map .val)) := by
  show (if is.length = ds.length then _ else none) = _
  unfold guardB
  simp
theorem tg_ls {is : List Nat} {ds : List D} {env : En} : bindTg (.tp is) (.ls ds) env = guardB (decide (is.length = ds.length)) (setSlots env is (ds.map .val)) := by
  show (if is.length = ds.length then _ else none) = _
  unfold guardB
  simp
theorem bne_t {a : Bool} : (!(a == true)) = !a := by cases a <;> rfl
theorem bne_f {a : Bool} : (!(a == false)) = a := by cases a <;> rfl
theorem ra_var {cl : Oracle} {env : En} {rs : CEs} (i : Nat) : evalAs cl (.cons (.var i) rs) env = bindV (evalE cl (.var i) env) fun d e1 => bindSs (evalAs cl rs e1) fun ds e2 => some (.val d :: ds, e2) := r_acons rfl
theorem ra_cst {cl : Oracle} {env : En} {rs : CEs} (d : D) : evalAs cl (.cons (.cst d) rs) env = bindV (evalE cl (.cst d) env) fun d e1 => bindSs (evalAs cl rs e1) fun ds e2 => some (.val d :: ds, e2) := r_acons rfl
theorem ra_gc {cl : Oracle} {env : En} {rs : CEs} (x : Str) (d : D) : evalAs cl (.cons (.gc x d) rs) env = bindV (evalE cl (.gc x d) env) fun d e1 => bindSs (evalAs cl rs e1) fun ds e2 => some (.val d :: ds, e2) := r_acons rfl
theorem ra_gf {cl : Oracle} {env : En} {rs : CEs} (x : Str) (j : Nat) : evalAs cl (.cons (.gf x j) rs) env = bindV (evalE cl (.gf x j) env) fun d e1 => bindSs (evalAs cl rs e1) fun ds e2 => some (.val d :: ds, e2) := r_acons rfl
theorem ra_bin {cl : Oracle} {env : En} {rs : CEs} (o : BOp) (a b : CE) : evalAs cl (.cons (.bin o a b) rs) env = bindV (evalE cl (.bin o a b) env) fun d e1 => bindSs (evalAs cl rs e1) fun ds e2 => some (.val d :: ds, e2) := r_acons rfl
theorem ra_neg {cl : Oracle} {env : En} {rs : CEs} (a : CE) : evalAs cl (.cons (.neg a) rs) env = bindV (evalE cl (.neg a) env) fun d e1 => bindSs (evalAs cl rs e1) fun ds e2 => some (.val d :: ds, e2) := r_acons rfl
theorem ra_cmp {cl : Oracle} {env : En} {rs : CEs} (o : COp) (a b : CE) : evalAs cl (.cons (.cmp o a b) rs) env = bindV (evalE cl (.cmp o a b) env) fun d e1 => bindSs (evalAs cl rs e1) fun ds e2 => some (.val d :: ds, e2) := r_acons rfl
theorem ra_chain {cl : Oracle} {env : En} {rs : CEs} (o p : COp) (a b c : CE) : evalAs cl (.cons (.chain o p a b c) rs) env = bindV (evalE cl (.chain o p a b c) env) fun d e1 => bindSs (evalAs cl rs e1) fun ds e2 => some (.val d :: ds, e2) := r_acons rfl
theorem ra_isN {cl : Oracle} {env : En} {rs : CEs} (n : Bool) (a : CE) : evalAs cl (.cons (.isN n a) rs) env = bindV (evalE cl (.isN n a) env) fun d e1 => bindSs (evalAs cl rs e1) fun ds e2 => some (.val d :: ds, e2) := r_acons rfl
theorem ra_and {cl : Oracle} {env : En} {rs : CEs} (a b : CE) : evalAs cl (.cons (.and a b) rs) env = bindV (evalE cl (.and a b) env) fun d e1 => bindSs (evalAs cl rs e1) fun ds e2 => some (.val d :: ds, e2) := r_acons rfl
theorem ra_or {cl : Oracle} {env : En} {rs : CEs} (a b : CE) : evalAs cl (.cons (.or a b) rs) env = bindV (evalE cl (.or a b) env) fun d e1 => bindSs (evalAs cl rs e1) fun ds e2 => some (.val d :: ds, e2) := r_acons rfl
theorem ra_not {cl : Oracle} {env : En} {rs : CEs} (a : CE) : evalAs cl (.cons (.not a) rs) env = bindV (evalE cl (.not a) env) fun d e1 => bindSs (evalAs cl rs e1) fun ds e2 => some (.val d :: ds, e2) := r_acons rfl
theorem ra_ife {cl : Oracle} {env : En} {rs : CEs} (c a b : CE) : evalAs cl (.cons (.ife c a b) rs) env = bindV (evalE cl (.ife c a b) env) fun d e1 => bindSs (evalAs cl rs e1) fun ds e2 => some (.val d :: ds, e2) := r_acons rfl
theorem ra_tup {cl : Oracle} {env : En} {rs : CEs} (es : CEs) : evalAs cl (.cons (.tup es) rs) env = bindV (evalE cl (.tup es) env) fun d e1 => bindSs (evalAs cl rs e1) fun ds e2 => some (.val d :: ds, e2) := r_acons rfl
theorem ra_lst {cl : Oracle} {env : En} {rs : CEs} (es : CEs) : evalAs cl (.cons (.lst es) rs) env = bindV (evalE cl (.lst es) env) fun d e1 => bindSs (evalAs cl rs e1) fun ds e2 => some (.val d :: ds, e2) := r_acons rfl
theorem ra_ix {cl : Oracle} {env : En} {rs : CEs} (a i : CE) : evalAs cl (.cons (.ix a i) rs) env = bindV (evalE cl (.ix a i) env) fun d e1 => bindSs (evalAs cl rs e1) fun ds e2 => some (.val d :: ds, e2) := r_acons rfl
theorem ra_ixv {cl : Oracle} {env : En} {rs : CEs} (k : Nat) (i : CE) : evalAs cl (.cons (.ixv k i) rs) env = bindV (evalE cl (.ixv k i) env) fun d e1 => bindSs (evalAs cl rs e1) fun ds e2 => some (.val d :: ds, e2) := r_acons rfl
theorem ra_sl {cl : Oracle} {env : En} {rs : CEs} (a l h : CE) : evalAs cl (.cons (.sl a l h) rs) env = bindV (evalE cl (.sl a l h) env) fun d e1 => bindSs (evalAs cl rs e1) fun ds e2 => some (.val d :: ds, e2) := r_acons rfl
theorem ra_slv {cl : Oracle} {env : En} {rs : CEs} (k : Nat) (l h : CE) : evalAs cl (.cons (.slv k l h) rs) env = bindV (evalE cl (.slv k l h) env) fun d e1 => bindSs (evalAs cl rs e1) fun ds e2 => some (.val d :: ds, e2) := r_acons rfl
theorem ra_rev {cl : Oracle} {env : En} {rs : CEs} (a : CE) : evalAs cl (.cons (.rev a) rs) env = bindV (evalE cl (.rev a) env) fun d e1 => bindSs (evalAs cl rs e1) fun ds e2 => some (.val d :: ds, e2) := r_acons rfl
theorem ra_call {cl : Oracle} {env : En} {rs : CEs} (j : Nat) (es : CEs) (dv : List D) : evalAs cl (.cons (.call j es dv) rs) env = bindV (evalE cl (.call j es dv) env) fun d e1 => bindSs (evalAs cl rs e1) fun ds e2 => some (.val d :: ds, e2) := r_acons rfl
theorem ra_callv {cl : Oracle} {env : En} {rs : CEs} (i : Nat) (es : CEs) : evalAs cl (.cons (.callv i es) rs) env = bindV (evalE cl (.callv i es) env) fun d e1 => bindSs (evalAs cl rs e1) fun ds e2 => some (.val d :: ds, e2) := r_acons rfl
theorem ra_bi {cl : Oracle} {env : En} {rs : CEs} (b : BI) (es : CEs) : evalAs cl (.cons (.bi b es) rs) env = bindV (evalE cl (.bi b es) env) fun d e1 => bindSs (evalAs cl rs e1) fun ds e2 => some (.val d :: ds, e2) := r_acons rfl
theorem ra_lenv {cl : Oracle} {env : En} {rs : CEs} (k : Nat) : evalAs cl (.cons (.lenv k) rs) env = bindV (evalE cl (.lenv k) env) fun d e1 => bindSs (evalAs cl rs e1) fun ds e2 => some (.val d :: ds, e2) := r_acons rfl
theorem ra_isi {cl : Oracle} {env : En} {rs : CEs} (a : CE) (t : Ty) : evalAs cl (.cons (.isi a t) rs) env = bindV (evalE cl (.isi a t) env) fun d e1 => bindSs (evalAs cl rs e1) fun ds e2 => some (.val d :: ds, e2) := r_acons rfl
theorem ra_lc {cl : Oracle} {env : En} {rs : CEs} (e : CE) (t : Tg) (i : CI) (c : CE) (vs : List Nat) : evalAs cl (.cons (.lc e t i c vs) rs) env = bindV (evalE cl (.lc e t i c vs) env) fun d e1 => bindSs (evalAs cl rs e1) fun ds e2 => some (.val d :: ds, e2) := r_acons rfl
theorem ra_pop {cl : Oracle} {env : En} {rs : CEs} (i : Nat) : evalAs cl (.cons (.pop i) rs) env = bindV (evalE cl (.pop i) env) fun d e1 => bindSs (evalAs cl rs e1) fun ds e2 => some (.val d :: ds, e2) := r_acons rfl
theorem rt_bin {cl : Oracle} {env : En} (o : BOp) (a b : CE) : evalT cl (.bin o a b) env = bindV (evalE cl (.bin o a b) env) fun d e1 => bindO d.truth fun b => some (b, e1) := t_val' rfl
theorem rt_neg {cl : Oracle} {env : En} (a : CE) : evalT cl (.neg a) env = bindV (evalE cl (.neg a) env) fun d e1 => bindO d.truth fun b => some (b, e1) := t_val' rfl
theorem rt_cmp {cl : Oracle} {env : En} (o : COp) (a b : CE) : evalT cl (.cmp o a b) env = bindV (evalE cl (.cmp o a b) env) fun d e1 => bindO d.truth fun b => some (b, e1) := t_val' rfl
theorem rt_chain {cl : Oracle} {env : En} (o p : COp) (a b c : CE) : evalT cl (.chain o p a b c) env = bindV (evalE cl (.chain o p a b c) env) fun d e1 => bindO d.truth fun b => some (b, e1) := t_val' rfl
theorem rt_isN {cl : Oracle} {env : En} (n : Bool) (a : CE) : evalT cl (.isN n a) env = bindV (evalE cl (.isN n a) env) fun d e1 => bindO d.truth fun b => some (b, e1) := t_val' rfl
theorem rt_ix {cl : Oracle} {env : En} (a i : CE) : evalT cl (.ix a i) env = bindV (evalE cl (.ix a i) env) fun d e1 => bindO d.truth fun b => some (b, e1) := t_val' rfl
theorem rt_ixv {cl : Oracle} {env : En} (k : Nat) (i : CE) : evalT cl (.ixv k i) env = bindV (evalE cl (.ixv k i) env) fun d e1 => bindO d.truth fun b => some (b, e1) := t_val' rfl
theorem rt_call {cl : Oracle} {env : En} (j : Nat) (es : CEs) (dv : List D) : evalT cl (.call j es dv) env = bindV (evalE cl (.call j es dv) env) fun d e1 => bindO d.truth fun b => some (b, e1) := t_val' rfl
theorem rt_bi {cl : Oracle} {env : En} (b : BI) (es : CEs) : evalT cl (.bi b es) env = bindV (evalE cl (.bi b es) env) fun d e1 => bindO d.truth fun b => some (b, e1) := t_val' rfl
theorem rt_isi {cl : Oracle} {env : En} (a : CE) (t : Ty) : evalT cl (.isi a t) env = bindV (evalE cl (.isi a t) env) fun d e1 => bindO d.truth fun b => some (b, e1) := t_val' rfl
theorem sizeLine_v : sizeLine = 16777216 := by decide
end Pi

open PySem Pi
local macro_rules
  | `(tactic| simp_arith [$ts,*]) => `(tactic| simp only [r_run, argS_nil, argS_t, argS_f, outs_nil, outs_t, outs_f, r_var, r_cst, r_gc, r_gf, r_bin, r_neg, r_cmp, r_chain, r_isN, r_and, r_or, r_not, r_ife, r_tup, r_lst, r_ix, r_ixv, r_sl, r_slv, r_rev, r_call, r_bi, r_lenv, r_isi, r_lc, r_pop, r_callv, r_enil, r_econs, r_anil, r_aio, ra_var, ra_cst, ra_gc, ra_gf, ra_bin, ra_neg, ra_cmp, ra_chain, ra_isN, ra_and, ra_or, ra_not, ra_ife, ra_tup, ra_lst, ra_ix, ra_ixv, ra_sl, ra_slv, ra_rev, ra_call, ra_callv, ra_bi, ra_lenv, ra_isi, ra_lc, ra_pop, t_and', t_or', t_not', t_var', t_cst, rt_bin, rt_neg, rt_cmp, rt_chain, rt_isN, rt_ix, rt_ixv, rt_call, rt_bi, rt_isi, r_sq, r_rg1, r_rg2, r_rg3, r_snil, r_scons, r_asg, r_asgt, r_lnil, r_lcons, r_asl, r_setix, r_app, r_ext, r_drop, r_ret, r_retv, r_ret0, r_if, r_whl, r_fr, r_brk, r_cnt, r_pass, r_raise, r_try,
      bindV_val, bindV_own, bindV_none, bindB_some, bindB_none, bindDs_some, bindSs_some, bindE_some, bindE_none, bindO_some, bindO_none, bindF_nx, bindF_rt, bindF_bk, bindF_ct, bindF_none, guardB_t, guardB_f, f_nil, d_nil,
      isTy, eqv_str, nev_str, eqv_int, nev_int, lt_int, le_int, gt_int, ge_int, eqv_bl, nev_bl, add_int, sub_int, mul_int, fdiv_int, mod_int, len_ls, len_tup, abs_int, int_int, list_ls, list_tup, readAt_eq, Slot.read, listAt_eq, Slot.list, List.getElem?_cons_zero, List.getElem?_cons_succ, List.length_cons, List.length_nil, List.replicate, List.cons_append, List.nil_append, List.append_nil, Option.isSome_some, setSlot_can, canSet, nio_val, nio_own, nio_nil, nio_io, setSlots_nil, setSlots_cons, tg_nm, tg_tup, tg_ls, putList_eq, putLists_nil, putLists_cons, List.set_cons_zero, List.set_cons_succ, D.truth, D.isNon, iosOf, if_true, if_false, Bool.false_eq_true, Nat.reduceSub, Nat.reduceAdd, Nat.zero_add, Bool.not_true, Bool.not_false, List.map_cons, List.map_nil, reduceIte, D.items, wipe_nil, wipe_cons, restore_nil, restore_eq, setO_some, ix_tup, ix_ls, at0, at1, at2, at3, decide_true, decide_false, Int.cast_ofNat_Int, Int.reduceLE, Int.reduceLT, Int.reduceBEq, Int.reduceBNe, Int.reduceNeg, Nat.reduceLT, Nat.reduceLeDiff, Nat.reduceEqDiff, Bool.and_self, Bool.and_true, Bool.true_and, Bool.false_and, Bool.and_false, Bool.or_true, Bool.true_or, Bool.or_false, Bool.false_or, beq_self_eq_true, sizeLine_v, and_true, true_and, $ts,*])

-- PiLaw
set_option maxHeartbeats 8000000
namespace Pi
open PySem
def cIsInt  : CSs := (.cons (.ret (.and (.isi (.var 0) .int) (.not (.isi (.var 0) .bool)))) .nil)
def cFromTo (j0 : Nat) : CSs := (.cons (.ret (.and (.call j0 (.cons (.var 0) .nil) []) (.chain .le .le (.var 1) (.var 0) (.var 2)))) .nil)
def cTupleOf  : CSs := (.cons (.ret (.and (.isi (.var 0) .tuple) (.chain .le .le (.var 1) (.lenv 0) (.var 2)))) .nil)
def cCheck (j1 : Nat) : CSs := (.cons (.ife (.not (.call j1 (.cons (.var 0) (.cons (.var 1) (.cons (.var 2) .nil))) [])) (.cons .raise .nil) .nil) .nil)
def cGcd  : CSs := (.cons (.whl (.var 1) (.cons (.asl [0, 1] (.cons (.var 1) (.cons (.bin .mod (.var 0) (.var 1)) .nil))) .nil)) (.cons (.ret (.bi .abs (.cons (.var 0) .nil))) .nil))
def cFrac (j1 j2 j4 : Nat) : CSs := (.cons (.ife (.or (.not (.call j2 (.cons (.var 0) (.cons (.cst (.int (2))) (.cons (.cst (.int (2))) .nil))) [])) (.not (.call j1 (.cons (.ixv 0 (.cst (.int (0)))) (.cons (.neg (.gc "MOST_NUMBER" (.int (1000000000000000000000000000000000000000000000000000000000000)))) (.cons (.gc "MOST_NUMBER" (.int (1000000000000000000000000000000000000000000000000000000000000))) .nil))) []))) (.cons (.ret (.cst (.bl false))) .nil) .nil) (.cons (.ret (.and (.call j1 (.cons (.ixv 0 (.cst (.int (1)))) (.cons (.cst (.int (1))) (.cons (.gc "MOST_NUMBER" (.int (1000000000000000000000000000000000000000000000000000000000000))) .nil))) []) (.cmp .eq (.call j4 (.cons (.ixv 0 (.cst (.int (0)))) (.cons (.ixv 0 (.cst (.int (1)))) .nil)) []) (.cst (.int (1)))))) .nil))
def cWorld (j1 j2 j5 : Nat) : CSs := (.cons (.ret (.and (.call j2 (.cons (.var 0) (.cons (.cst (.int (3))) (.cons (.cst (.int (3))) .nil))) []) (.and (.call j5 (.cons (.slv 0 (.cst .non) (.cst (.int (2)))) .nil) []) (.call j1 (.cons (.ixv 0 (.cst (.int (2)))) (.cons (.neg (.gc "MOST_NUMBER" (.int (1000000000000000000000000000000000000000000000000000000000000)))) (.cons (.gc "MOST_NUMBER" (.int (1000000000000000000000000000000000000000000000000000000000000))) .nil))) [])))) .nil)
def cDay  : CSs := (.cons (.asg (.tp [2, 3, 4]) (.var 0)) (.cons (.ret (.bin .fdiv (.bin .add (.bin .mul (.var 2) (.var 1)) (.var 4)) (.var 3))) .nil))
def cStream  : CSs := (.cons (.ret (.lst (.cons (.bi .list (.cons (.var 0) .nil)) (.cons (.cst (.int (0))) (.cons (.cst (.int (0))) .nil))))) .nil)
def cNext  : CSs := (.cons (.ife (.cmp .eq (.ixv 0 (.cst (.int (1)))) (.cst (.int (0)))) (.cons (.asg (.nm 2) (.ixv 0 (.cst (.int (2))))) (.cons (.asg (.nm 3) (.bin .add (.cst (.int (7))) (.var 2))) (.cons (.ife (.cmp .lt (.var 2) (.bi .len (.cons (.ixv 0 (.cst (.int (0)))) .nil))) (.cons (.asg (.nm 3) (.bin .mod (.bi .int (.cons (.bi .abs (.cons (.ix (.ixv 0 (.cst (.int (0)))) (.var 2)) .nil)) .nil)) (.bin .pow (.cst (.int (10))) (.cst (.int (60)))))) .nil) .nil) (.cons (.ife (.cmp .lt (.var 3) (.bin .pow (.cst (.int (10))) (.cst (.int (18))))) (.cons (.asg (.nm 3) (.bin .mod (.bi .int (.cons (.bin .add (.bin .add (.bin .mul (.var 3) (.cst (.int (48271)))) (.bin .mul (.var 2) (.cst (.int (69621))))) (.cst (.int (11)))) .nil)) (.cst (.int (2147483647))))) (.cons (.asg (.nm 3) (.bin .add (.bin .mul (.bin .mod (.bi .int (.cons (.bin .add (.bin .mul (.var 3) (.cst (.int (16807)))) (.cst (.int (13)))) .nil)) (.cst (.int (2147483647)))) (.cst (.int (65537)))) (.var 3))) .nil)) .nil) (.cons (.setix 0 (.cst (.int (1))) (.var 3)) (.cons (.setix 0 (.cst (.int (2))) (.bin .add (.var 2) (.cst (.int (1))))) .nil)))))) .nil) (.cons (.asg (.nm 4) (.bin .mod (.bi .int (.cons (.ixv 0 (.cst (.int (1)))) .nil)) (.var 1))) (.cons (.setix 0 (.cst (.int (1))) (.bin .fdiv (.ixv 0 (.cst (.int (1)))) (.var 1))) (.cons (.retv 4) .nil))))
def cPick (jn : Nat) : CSs := (.cons (.ret (.ixv 1 (.call jn (.cons (.io 0) (.cons (.lenv 1) .nil)) []))) .nil)
def cPlain  : CSs := (.cons (.asg (.nm 1) (.lst (.cons (.var 0) .nil))) (.cons (.fr (.nm 2) (.rg1 (.bin .pow (.cst (.int (10))) (.cst (.int (6))))) (.cons (.ife (.cmp .eq (.lenv 1) (.cst (.int (0)))) (.cons (.ret (.cst (.bl true))) .nil) .nil) (.cons (.asg (.nm 3) (.pop 1)) (.cons (.ife (.isi (.var 3) .tuple) (.cons (.ext 1 (.bi .list (.cons (.var 3) .nil))) .nil) (.cons (.ife (.and (.isN true (.var 3)) (.and (.not (.isi (.var 3) .str)) (.not (.isi (.var 3) .int)))) (.cons (.ret (.cst (.bl false))) .nil) .nil) .nil)) .nil)))) (.cons (.ret (.cst (.bl false))) .nil)))
def cEqual (jp : Nat) : CSs := (.cons (.ret (.and (.call jp (.cons (.var 0) .nil) []) (.cmp .eq (.bi .repr (.cons (.var 0) .nil)) (.bi .repr (.cons (.var 1) .nil))))) .nil)
def cDivisor  : CSs := (.cons (.fr (.nm 2) (.rg1 (.cst (.int (1000)))) (.cons (.ife (.cmp .eq (.var 1) (.cst (.int (0)))) (.cons (.ret (.bi .abs (.cons (.var 0) .nil))) .nil) .nil) (.cons (.asl [0, 1] (.cons (.var 1) (.cons (.bin .mod (.bi .int (.cons (.var 0) .nil)) (.var 1)) .nil))) .nil))) (.cons (.ret (.cst (.int (1)))) .nil))
def cLowest (jd : Nat) : CSs := (.cons (.asg (.nm 2) (.call jd (.cons (.var 0) (.cons (.var 1) .nil)) [])) (.cons (.ret (.tup (.cons (.bin .fdiv (.var 0) (.var 2)) (.cons (.bin .fdiv (.var 1) (.var 2)) .nil)))) .nil))

theorem call_at {ds : List TDef} {L n j : Nat} {d : TDef} {args : List Slot} (h : ds[j]? = some d) : Pi.call (tabOf ds) L (n + 1) j args = runDef (Pi.call (tabOf ds) L n) L ⟨d.mask, d.N.length, d.code⟩ args := by
  show Pi.call (tabOf ds) L (n + 1) j args = _
  have e : tabOf ds j = some ⟨d.mask, d.N.length, d.code⟩ := by
    unfold tabOf
    rw [h]
  unfold Pi.call
  rw [e]
def isInt : D → Bool
  | .int _ => true
  | _ => false
def noFn : D → Bool
  | .fn _ => false
  | _ => true
def inB (a b : Int) : D → Bool
  | .int x => decide (a ≤ x) && decide (x ≤ b)
  | _ => false
def isTupB (a b : Int) : D → Bool
  | .tup ds => decide (a ≤ ds.length) && decide ((ds.length : Int) ≤ b)
  | _ => false
abbrev Wd3 (p q c : Int) : D := .tup [.int p, .int q, .int c]
theorem gcd_step (a b : Int) : Int.gcd b (a % b) = Int.gcd a b := by
  have e : a % b = a - (a / b) * b := by
    have := Int.emod_add_mul_ediv a b
    rw [Int.mul_comm (a / b) b]
    omega
  rw [e, Int.gcd_sub_mul_right_right, Int.gcd_comm]
theorem cop_dvd {m k x : Int} (h : Int.gcd m k = 1) (hd : m ∣ k * x) : m ∣ x := by
  rw [← Int.natAbs_dvd_natAbs, Int.natAbs_mul] at hd
  rw [← Int.natAbs_dvd_natAbs]
  exact Nat.Coprime.dvd_of_dvd_mul_left h hd
theorem dvd_of_gcd {a b : Int} {g : Int} (h1 : g ∣ a) (h2 : g ∣ b) (h : Int.gcd a b = 1) : g.natAbs = 1 := by
  have h3 := Int.dvd_coe_gcd h1 h2
  rw [h] at h3
  have := Int.natAbs_dvd_natAbs.mpr h3
  exact Nat.dvd_one.mp this
section
variable {L n : Nat} {cl : Oracle}
theorem gcd_loop : ∀ (m : Nat) (a b : Int), 0 ≤ b → b.toNat < m → ∃ g : Int, g.natAbs = Int.gcd a b ∧
    doW cl L (.var 1) (.cons (.asl [0, 1] (.cons (.var 1) (.cons (.bin .mod (.var 0) (.var 1)) .nil))) .nil) m [.val (.int a), .val (.int b)] = some (.nx [.val (.int g), .val (.int 0)])
  | 0, a, b, _, h => by omega
  | m + 1, a, b, h0, h => by
    rw [w_succ]
    by_cases hb : b = 0
    · subst hb
      exact ⟨a, by rw [Int.gcd_zero_right], by simp_arith []⟩
    · have hb' : (b != 0) = true := by simpa using hb
      have hp : 0 < b := by omega
      have h1 := Int.emod_nonneg a hb
      have h2 := Int.emod_lt_of_pos a hp
      obtain ⟨g, e1, e2⟩ := gcd_loop m b (a % b) h1 (by omega)
      refine ⟨g, by rw [e1, gcd_step], ?_⟩
      simp_arith [hb', mod_int hp]
      exact e2
theorem run_isInt {d : D} (h : noFn d = true) : runDef cl L ⟨[false], 1, cIsInt⟩ [.val d] = some (.val (.bl (isInt d)), []) := by
  simp only [cIsInt]
  cases d <;> first | cases h; done | (simp_arith []; rfl)
theorem run_fromTo {j0 : Nat} {d : D} {a b : Int} (h0 : cl j0 [.val d] = some (.val (.bl (isInt d)), [])) : runDef cl L ⟨[false, false, false], 3, cFromTo j0⟩ [.val d, .val (.int a), .val (.int b)] = some (.val (.bl (inB a b d)), []) := by
  simp only [cFromTo]
  cases d <;> (simp only [isInt] at h0; simp_arith [h0])
  · rfl
  · rfl
  · rename_i x
    simp only [inB]
    cases decide (a ≤ x) <;> rfl
  · rfl
  · rfl
  · rfl
  · rfl
theorem run_tupleOf {d : D} {a b : Int} (h : noFn d = true) : runDef cl L ⟨[false, false, false], 3, cTupleOf⟩ [.val d, .val (.int a), .val (.int b)] = some (.val (.bl (isTupB a b d)), []) := by
  simp only [cTupleOf]
  cases d <;> first | cases h; done | (simp_arith []; done) | (simp_arith []; rfl) | skip
  rename_i ds
  simp_arith []
  simp only [isTupB]
  cases decide (a ≤ (ds.length : Int)) <;> rfl
theorem run_check {j1 : Nat} {d nm : D} {a b : Int} (h1 : cl j1 [.val d, .val (.int a), .val (.int b)] = some (.val (.bl true), [])) : runDef cl L ⟨[false, false, false, false], 4, cCheck j1⟩ [.val d, .val (.int a), .val (.int b), .val nm] = some (.val .non, []) := by
  simp only [cCheck]
  simp_arith [h1]
theorem run_gcd {a b : Int} (hb : 0 ≤ b) (hL : b.toNat < L) : runDef cl L ⟨[false, false], 2, cGcd⟩ [.val (.int a), .val (.int b)] = some (.val (.int (Int.gcd a b)), []) := by
  simp only [cGcd]
  obtain ⟨g, e1, e2⟩ := gcd_loop (cl := cl) (L := L) L a b hb hL
  simp_arith [e2]
  have : (if g < 0 then -g else g) = (Int.gcd a b : Int) := by
    rw [← e1]
    split <;> omega
  rw [this]
theorem big60 {x : Int} (h : -(10 ^ 60) ≤ x ∧ x ≤ 10 ^ 60) : decide (-1000000000000000000000000000000000000000000000000000000000000 ≤ x) = true ∧ decide (x ≤ 1000000000000000000000000000000000000000000000000000000000000) = true := by
  have e : (10 : Int) ^ 60 = 1000000000000000000000000000000000000000000000000000000000000 := by decide
  rw [e] at h
  exact ⟨decide_eq_true h.1, decide_eq_true h.2⟩
theorem run_frac {j1 j2 j4 : Nat} {p q : Int} (hp : -(10 ^ 60) ≤ p ∧ p ≤ 10 ^ 60) (hq : 1 ≤ q ∧ q ≤ 10 ^ 60) (g : Int.gcd p q = 1)
    (h1 : ∀ (x a b : Int), cl j1 [.val (.int x), .val (.int a), .val (.int b)] = some (.val (.bl (inB a b (.int x))), [])) (h2 : cl j2 [.val (.tup [.int p, .int q]), .val (.int 2), .val (.int 2)] = some (.val (.bl true), []))
    (h4 : cl j4 [.val (.int p), .val (.int q)] = some (.val (.int (Int.gcd p q)), [])) : runDef cl L ⟨[false], 1, cFrac j1 j2 j4⟩ [.val (.tup [.int p, .int q])] = some (.val (.bl true), []) := by
  simp only [cFrac]
  obtain ⟨a1, a2⟩ := big60 hp
  obtain ⟨a3, a4⟩ := big60 (x := q) (by omega)
  simp_arith [h1, h2, h4, g, inB, a1, a2, a4, decide_eq_true hq.1]
theorem cut3_2 (a b c : D) : cutD [a, b, c] none (some 2) = [a, b] := rfl
theorem run_world {j1 j2 j5 : Nat} {p q c : Int} (hc : -(10 ^ 60) ≤ c ∧ c ≤ 10 ^ 60)
    (h1 : ∀ (x a b : Int), cl j1 [.val (.int x), .val (.int a), .val (.int b)] = some (.val (.bl (inB a b (.int x))), [])) (h2 : cl j2 [.val (Wd3 p q c), .val (.int 3), .val (.int 3)] = some (.val (.bl true), []))
    (h5 : cl j5 [.val (.tup [.int p, .int q])] = some (.val (.bl true), [])) : runDef cl L ⟨[false], 1, cWorld j1 j2 j5⟩ [.val (Wd3 p q c)] = some (.val (.bl true), []) := by
  simp only [cWorld]
  obtain ⟨a1, a2⟩ := big60 hc
  simp_arith [h1, h2, h5, inB, a1, a2, sl_tup part_non part_int, cut3_2]
theorem run_day {p q c e : Int} (hp : MulOk p e) (hq : DivOk q) : runDef cl L ⟨[false, false], 5, cDay⟩ [.val (Wd3 p q c), .val (.int e)] = some (.val (.int ((p * e + c) / q)), []) := by
  simp only [cDay]
  simp_arith [decide_eq_true hp, fdiv_int hq]
def Strm (S : List D) : Prop := ∃ (ns : List Int) (cell k : Int), S = [.ls (ns.map D.int), .int cell, .int k] ∧ 0 ≤ k
theorem strm0 (ns : List Int) : Strm [.ls (ns.map D.int), .int 0, .int 0] := ⟨ns, 0, 0, rfl, by omega⟩
theorem pow60 : evalBin .pow (.int 10) (.int 60) = some (.val (.int 1000000000000000000000000000000000000000000000000000000000000)) := by rfl
theorem pow18 : evalBin .pow (.int 10) (.int 18) = some (.val (.int 1000000000000000000)) := by rfl
theorem ix31 : L2.ixN 3 1 = some 1 := rfl
theorem ix32 : L2.ixN 3 2 = some 2 := rfl
theorem run_next {S : List D} {many : Int} (hS : Strm S) (h0 : 0 < many) (h1 : many < 2 ^ 60) : ∃ (r : Int) (S' : List D), runDef cl L ⟨[true, false], 5, cNext⟩ [.own S, .val (.int many)] = some (.val (.int r), [S']) ∧ Strm S' ∧ 0 ≤ r ∧ r < many := by
  obtain ⟨ns, cell, k, rfl, hk⟩ := hS
  have hd : DivOk many := divOk_of h0 (by omega)
  have fin : ∀ cell k : Int, 0 ≤ cell % many ∧ cell % many < many := fun cell k => ⟨Int.emod_nonneg _ (by omega), Int.emod_lt_of_pos _ h0⟩
  have m1 : (0 : Int) < 2147483647 := by decide
  have m2 : (0 : Int) < 1000000000000000000000000000000000000000000000000000000000000 := by decide
  have mr : ∀ i j : Int, -1000000 ≤ j ∧ j ≤ 1000000 → decide (Pi.MulOk i j) = true := fun i j h => decide_eq_true (mulOk_r (by omega) (by omega))
  have mm1 := fun i => mr i 48271 (by decide)
  have mm2 := fun i => mr i 69621 (by decide)
  have mm3 := fun i => mr i 16807 (by decide)
  have mm4 := fun i => mr i 65537 (by decide)
  simp only [cNext]
  cases e1 : (cell == 0) with
  | false =>
    refine ⟨_, _, by simp_arith [e1, mod_int h0, fdiv_int hd, ix31, ix32]; rfl, ⟨ns, _, k, rfl, hk⟩, (fin _ 0).1, (fin _ 0).2⟩
  | true =>
    by_cases e2 : k < (ns.map D.int).length
    · have e2' : decide (k < ((ns.map D.int).length : Int)) = true := decide_eq_true e2
      obtain ⟨x, hx⟩ : ∃ x : Int, L2.atI (ns.map D.int) k = some (.int x) := by
        rw [List.length_map] at e2
        have hlt : k.toNat < ns.length := by omega
        refine ⟨ns[k.toNat], ?_⟩
        have := at_nat (ds := ns.map D.int) (k := k.toNat) (x := .int ns[k.toNat]) (by rw [List.getElem?_map, List.getElem?_eq_getElem hlt]; rfl)
        rwa [show ((k.toNat : Nat) : Int) = k by omega] at this
      cases e3 : decide ((if x < 0 then -x else x) % 1000000000000000000000000000000000000000000000000000000000000 < 1000000000000000000) with
      | false =>
        refine ⟨_, _, by simp_arith [e1, e2', hx, pow60, pow18, mod_int m2, mod_int m1, e3, mod_int h0, fdiv_int hd, ix31, ix32, mm1, mm2, mm3, mm4]; rfl, ⟨ns, _, k + 1, rfl, by omega⟩, (fin _ 0).1, (fin _ 0).2⟩
      | true =>
        refine ⟨_, _, by simp_arith [e1, e2', hx, pow60, pow18, mod_int m2, mod_int m1, e3, mod_int h0, fdiv_int hd, ix31, ix32, mm1, mm2, mm3, mm4]; rfl, ⟨ns, _, k + 1, rfl, by omega⟩, (fin _ 0).1, (fin _ 0).2⟩
    · have e2' : decide (k < ((ns.map D.int).length : Int)) = false := decide_eq_false e2
      cases e3 : decide (7 + k < 1000000000000000000) with
      | false =>
        refine ⟨_, _, by simp_arith [e1, e2', pow60, pow18, mod_int m2, mod_int m1, e3, mod_int h0, fdiv_int hd, ix31, ix32, mm1, mm2, mm3, mm4]; rfl, ⟨ns, _, k + 1, rfl, by omega⟩, (fin _ 0).1, (fin _ 0).2⟩
      | true =>
        refine ⟨_, _, by simp_arith [e1, e2', pow60, pow18, mod_int m2, mod_int m1, e3, mod_int h0, fdiv_int hd, ix31, ix32, mm1, mm2, mm3, mm4]; rfl, ⟨ns, _, k + 1, rfl, by omega⟩, (fin _ 0).1, (fin _ 0).2⟩
theorem run_stream {ns : List Int} : runDef cl L ⟨[false], 1, cStream⟩ [.val (.ls (ns.map D.int))] = some (.own [.ls (ns.map D.int), .int 0, .int 0], []) := by
  simp only [cStream]
  simp_arith []
def Nexts (cl : Oracle) (jn : Nat) : Prop := ∀ (S : List D) (many : Int), Strm S → 0 < many → many < 2 ^ 60 → ∃ (r : Int) (S' : List D), cl jn [.own S, .val (.int many)] = some (.val (.int r), [S']) ∧ Strm S' ∧ 0 ≤ r ∧ r < many
theorem atI_in {ds : List D} {r : Int} (h0 : 0 ≤ r) (h1 : r < ds.length) : ∃ x, L2.atI ds r = some x ∧ x ∈ ds := by
  have hlt : r.toNat < ds.length := by omega
  refine ⟨ds[r.toNat], ?_, List.getElem_mem _⟩
  have := at_nat (ds := ds) (k := r.toNat) (x := ds[r.toNat]) (List.getElem?_eq_getElem hlt)
  rwa [show ((r.toNat : Nat) : Int) = r by omega] at this
theorem run_pick {jn : Nat} {S ds : List D} (N : Nexts cl jn) (hS : Strm S) (h0 : ds ≠ []) (h1 : ds.length < 1000000) : ∃ (x : D) (S' : List D), runDef cl L ⟨[true, false], 2, cPick jn⟩ [.own S, .val (.ls ds)] = some (.val x, [S']) ∧ Strm S' ∧ x ∈ ds := by
  have hpos : 0 < ds.length := List.length_pos_iff.mpr h0
  obtain ⟨r, S', e1, e2, e3, e4⟩ := N S ds.length hS (by omega) (by omega)
  obtain ⟨x, hx, hm⟩ := atI_in e3 e4
  refine ⟨x, S', ?_, e2, hm⟩
  simp only [cPick]
  simp_arith [e1, hx]
theorem run_pickT {jn : Nat} {S ds : List D} (N : Nexts cl jn) (hS : Strm S) (h0 : ds ≠ []) (h1 : ds.length < 1000000) : ∃ (x : D) (S' : List D), runDef cl L ⟨[true, false], 2, cPick jn⟩ [.own S, .val (.tup ds)] = some (.val x, [S']) ∧ Strm S' ∧ x ∈ ds := by
  have hpos : 0 < ds.length := List.length_pos_iff.mpr h0
  obtain ⟨r, S', e1, e2, e3, e4⟩ := N S ds.length hS (by omega) (by omega)
  obtain ⟨x, hx, hm⟩ := atI_in e3 e4
  refine ⟨x, S', ?_, e2, hm⟩
  simp only [cPick]
  simp_arith [e1, hx]
theorem run_pickIo {jn : Nat} {S ds : List D} (N : Nexts cl jn) (hS : Strm S) (h0 : ds ≠ []) (h1 : ds.length < 1000000) : ∃ (x : D) (S' : List D), runDef cl L ⟨[true, true], 2, cPick jn⟩ [.own S, .own ds] = some (.val x, [S', ds]) ∧ Strm S' ∧ x ∈ ds := by
  have hpos : 0 < ds.length := List.length_pos_iff.mpr h0
  obtain ⟨r, S', e1, e2, e3, e4⟩ := N S ds.length hS (by omega) (by omega)
  obtain ⟨x, hx, hm⟩ := atI_in e3 e4
  refine ⟨x, S', ?_, e2, hm⟩
  simp only [cPick]
  simp_arith [e1, hx]
mutual
def D.nodes : D → Nat
  | .tup ds => 1 + D.nodesL ds
  | _ => 1
def D.nodesL : List D → Nat
  | [] => 0
  | d :: ds => D.nodes d + D.nodesL ds
end
mutual
def D.plain : D → Bool
  | .tup ds => D.plainL ds
  | .ls _ => false
  | .fn _ => false
  | _ => true
def D.plainL : List D → Bool
  | [] => true
  | d :: ds => D.plain d && D.plainL ds
end
mutual
def D.fnless : D → Bool
  | .tup ds => D.fnlessL ds
  | .fn _ => false
  | _ => true
def D.fnlessL : List D → Bool
  | [] => true
  | d :: ds => D.fnless d && D.fnlessL ds
end
theorem nodesL_app : ∀ (xs ys : List D), D.nodesL (xs ++ ys) = D.nodesL xs + D.nodesL ys
  | [], ys => by rw [List.nil_append, D.nodesL]; omega
  | x :: xs, ys => by rw [List.cons_append, D.nodesL, D.nodesL, nodesL_app xs ys]; omega
theorem plainL_app : ∀ (xs ys : List D), D.plainL (xs ++ ys) = (D.plainL xs && D.plainL ys)
  | [], ys => by rw [List.nil_append, D.plainL, Bool.true_and]
  | x :: xs, ys => by rw [List.cons_append, D.plainL, D.plainL, plainL_app xs ys, Bool.and_assoc]
theorem fnlessL_app : ∀ (xs ys : List D), D.fnlessL (xs ++ ys) = (D.fnlessL xs && D.fnlessL ys)
  | [], ys => by rw [List.nil_append, D.fnlessL, Bool.true_and]
  | x :: xs, ys => by rw [List.cons_append, D.fnlessL, D.fnlessL, fnlessL_app xs ys, Bool.and_assoc]
theorem nodes_pos (d : D) : 1 ≤ d.nodes := by
  cases d <;> simp [D.nodes]
theorem len_nodes : ∀ (xs : List D), xs.length ≤ D.nodesL xs
  | [] => Nat.zero_le _
  | x :: xs => by
    rw [D.nodesL, List.length_cons]
    have := len_nodes xs
    have := nodes_pos x
    omega
def plainBody : CSs := (.cons (.ife (.cmp .eq (.lenv 1) (.cst (.int (0)))) (.cons (.ret (.cst (.bl true))) .nil) .nil) (.cons (.asg (.nm 3) (.pop 1)) (.cons (.ife (.isi (.var 3) .tuple) (.cons (.ext 1 (.bi .list (.cons (.var 3) .nil))) .nil) (.cons (.ife (.and (.isN true (.var 3)) (.and (.not (.isi (.var 3) .str)) (.not (.isi (.var 3) .int)))) (.cons (.ret (.cst (.bl false))) .nil) .nil) .nil)) .nil)))
theorem plainLoop {v : D} : ∀ (xs left : List D) (s2 s3 : Slot), D.nodesL left < xs.length → xs.length ≤ 1000000 → D.fnlessL left = true → nio s2 = true → nio s3 = true →
    ∃ e, doF cl L (.nm 2) plainBody xs [.val v, .own left, s2, s3] = some (.rt (.val (.bl (D.plainL left))) e) ∧ outsOf [false] e = some []
  | [], left, s2, s3, hx, hle, hf, h2, h3 => by simp at hx
  | x :: xs, left, s2, s3, hx, hle, hf, h2, h3 => by
    rw [List.length_cons] at hx hle
    rcases List.eq_nil_or_concat left with e | ⟨l, d, e⟩
    · subst e
      exact ⟨[.val v, .own [], .val x, s3], by unfold plainBody; simp_arith [f_cons, h2, D.plainL], rfl⟩
    · rw [List.concat_eq_append] at e
      subst e
      have hne : (((l ++ [d]).length : Int) == 0) = false := by
        have : ((l ++ [d]).length : Int) ≠ 0 := by
          rw [List.length_append, List.length_singleton]; omega
        simpa using this
      have n1 := nodesL_app l [d]
      rw [D.nodesL, D.nodesL] at n1
      rw [fnlessL_app, D.fnlessL, D.fnlessL, Bool.and_true, Bool.and_eq_true] at hf
      have go : ∀ (left' : List D), D.nodesL left' < xs.length → D.fnlessL left' = true → D.plainL left' = D.plainL (l ++ [d]) →
          ∃ e, doF cl L (.nm 2) plainBody xs [.val v, .own left', .val x, .val d] = some (.rt (.val (.bl (D.plainL (l ++ [d])))) e) ∧ outsOf [false] e = some [] := fun left' h1 h2 h3 => by
        obtain ⟨e, q1, q2⟩ := plainLoop (v := v) xs left' (.val x) (.val d) h1 (by omega) h2 rfl rfl
        rw [h3] at q1
        exact ⟨e, q1, q2⟩
      have hlast : plainBody = plainBody := rfl
      cases d with
      | tup ds =>
        rw [D.nodes] at n1
        have hf2 := hf.2
        rw [D.fnless] at hf2
        obtain ⟨e, q1, q2⟩ := go (l ++ ds) (by rw [nodesL_app]; omega) (by rw [fnlessL_app, hf.1, hf2]; rfl) (by rw [plainL_app, plainL_app, D.plainL, D.plainL, D.plain, Bool.and_true])
        refine ⟨e, ?_, q2⟩
        rw [← q1]
        have l1 := len_nodes l
        have l2 := len_nodes ds
        have hl2 : decide (l.length + ds.length ≤ 16777216) = true := decide_eq_true (by omega)
        rw [f_step]
        unfold plainBody
        simp_arith [h2, h3, hne, List.getLast?_append, List.getLast?_singleton, Option.or_some, Option.some_or, List.dropLast_concat, hl2]
      | ls ds =>
        refine ⟨_, by unfold plainBody; rw [plainL_app, D.plainL, D.plain, Bool.false_and, Bool.and_false]; simp_arith [f_cons, h2, h3, hne, List.getLast?_append, List.getLast?_singleton, Option.or_some, Option.some_or, List.dropLast_concat]; rfl, rfl⟩
      | fn j => rw [D.fnless] at hf; cases hf.2
      | _ =>
        simp only [D.nodes] at n1
        obtain ⟨e, q1, q2⟩ := go l (by omega) hf.1 (by rw [plainL_app, D.plainL, D.plainL]; simp [D.plain])
        refine ⟨e, ?_, q2⟩
        rw [← q1]
        rw [f_step]
        unfold plainBody
        simp_arith [h2, h3, hne, List.getLast?_append, List.getLast?_singleton, Option.or_some, Option.some_or, List.dropLast_concat]
theorem pow6 : evalBin .pow (.int 10) (.int 6) = some (.val (.int 1000000)) := by rfl
theorem run_plain {v : D} (h : v.nodes < 900000) (hf : v.fnless = true) : runDef cl L ⟨[false], 4, cPlain⟩ [.val v] = some (.val (.bl v.plain), []) := by
  have hs : decide (Small (1000000 : Int)) = true := by decide
  have hl : (rangeD 0 (1000000 : Int).toNat).length = 1000000 := by unfold rangeD; rw [List.length_map, List.length_range]; rfl
  generalize hr : rangeD 0 (1000000 : Int).toNat = xs at hl
  obtain ⟨e, q1, q2⟩ := plainLoop (cl := cl) (L := L) (v := v) xs [v] .nil .nil (by rw [D.nodesL, D.nodesL, hl]; omega) (by rw [hl]; omega) (by rw [D.fnlessL, D.fnlessL, hf]; rfl) rfl rfl
  rw [D.plainL, D.plainL, Bool.and_true] at q1
  unfold plainBody at q1
  simp only [cPlain]
  simp_arith [pow6, hs, hr, q1, q2]
def Shows (v : D) : Prop := ∃ s, evalBI .repr [v] = some (.val (.str s))
theorem run_equal {jp : Nat} {v : D} (hp : cl jp [.val v] = some (.val (.bl true), [])) (hs : Shows v) : runDef cl L ⟨[false, false], 2, cEqual jp⟩ [.val v, .val v] = some (.val (.bl true), []) := by
  obtain ⟨s, hs⟩ := hs
  simp only [cEqual]
  simp_arith [hp, hs]
theorem shows_non : Shows .non := ⟨_, rfl⟩
theorem shows_bl {b : Bool} : Shows (.bl b) := ⟨_, rfl⟩
theorem log_lt {i : Int} {k : Nat} (hk : 0 < k) (h : i.natAbs < 2 ^ k) : i.natAbs.log2 < k := by
  by_cases h0 : i.natAbs = 0
  · rw [h0]; simpa using hk
  · exact (Nat.log2_lt h0).mpr h
theorem pow60le : (10 : Nat) ^ 60 < 2 ^ 200 := by decide
theorem abs60 {i : Int} (h : -(10 ^ 60) ≤ i ∧ i ≤ 10 ^ 60) : i.natAbs.log2 < 200 := by
  apply log_lt (by omega)
  have := pow60le
  have e : ((10 : Int) ^ 60) = ((10 ^ 60 : Nat) : Int) := by decide
  rw [e] at h
  omega
theorem shows_int {i : Int} (h : -(10 ^ 60) ≤ i ∧ i ≤ 10 ^ 60) : Shows (.int i) := ⟨_, if_pos (by have := abs60 h; omega)⟩
def repS : Nat → D → Bool
  | _, .int i => decide (-(10 ^ 60) ≤ i ∧ i ≤ 10 ^ 60)
  | _, .bl _ => true
  | _, .non => true
  | k + 1, .tup ds => ds.all (repS k)
  | _, _ => false
def repLen : Nat → D → Nat
  | k + 1, .tup ds => (ds.map (repLen k)).sum + 2 * ds.length + 3
  | _, _ => 201
theorem toPys_map : ∀ (ds : List D), D.toPys ds = ds.map D.toPy
  | [] => rfl
  | d :: ds => by rw [D.toPys, toPys_map ds]; rfl
theorem lay_all : ∀ {ds : List PyData}, PyData.canLayAll0 ds = ds.all PyData.canLay0
  | [] => rfl
  | d :: ds => by rw [PyData.canLayAll0, lay_all]; rfl
theorem show_all : ∀ {ds : List PyData}, PyData.showableAll ds = ds.all PyData.showable
  | [] => rfl
  | d :: ds => by rw [PyData.showableAll, show_all]; rfl
theorem shown_all : ∀ {ds : List PyData}, PyData.shownAll ds = ds.map PyData.shown
  | [] => rfl
  | d :: ds => by rw [PyData.shownAll, shown_all]; rfl
theorem depth_all {k : Nat} : ∀ {ds : List PyData}, (∀ d ∈ ds, d.depth ≤ k) → PyData.depthAll ds ≤ k
  | [], _ => Nat.zero_le _
  | d :: ds, h => by
    rw [PyData.depthAll]
    have h1 := h d List.mem_cons_self
    have h2 := depth_all (ds := ds) fun x hx => h x (List.mem_cons_of_mem _ hx)
    exact Nat.max_le.mpr ⟨h1, h2⟩
theorem sum_le_map {α : Type} {f g : α → Nat} : ∀ {ds : List α}, (∀ d ∈ ds, f d ≤ g d) → (ds.map f).sum ≤ (ds.map g).sum
  | [], _ => Nat.le_refl _
  | d :: ds, h => by
    rw [List.map_cons, List.map_cons, List.sum_cons, List.sum_cons]
    have h1 := h d List.mem_cons_self
    have h2 := sum_le_map (f := f) (g := g) (ds := ds) fun x hx => h x (List.mem_cons_of_mem _ hx)
    omega
theorem repS_ok : ∀ (k : Nat) (d : D), repS k d = true → d.toPy.canLay0 = true ∧ d.toPy.showable = true ∧ d.toPy.depth ≤ k ∧ d.toPy.shown.length ≤ repLen k d := by
  have flat : ∀ (k : Nat) (d : D), (∀ ds, d ≠ .tup ds) → repS k d = true → d.toPy.canLay0 = true ∧ d.toPy.showable = true ∧ d.toPy.depth ≤ k ∧ d.toPy.shown.length ≤ 201 := fun k d hd h => by
    cases d with
    | tup ds => exact absurd rfl (hd ds)
    | int i =>
      have h' : -(10 ^ 60) ≤ i ∧ i ≤ 10 ^ 60 := by
        unfold repS at h
        cases k <;> exact of_decide_eq_true h
      have hl := abs60 h'
      refine ⟨rfl, by rw [D.toPy, PyData.showable]; exact decide_eq_true (by omega), by rw [D.toPy, PyData.depth]; omega, ?_⟩
      rw [D.toPy, PyData.shown]
      rw [ofString_length]
      exact PySem.int_text_length_le (by omega) hl
    | bl b => exact ⟨rfl, rfl, by rw [D.toPy, PyData.depth]; omega, by rw [D.toPy, PyData.shown]; cases b <;> decide⟩
    | non => exact ⟨rfl, rfl, by rw [D.toPy, PyData.depth]; omega, by rw [D.toPy, PyData.shown]; decide⟩
    | str s => cases k <;> cases h
    | ls ds => cases k <;> cases h
    | fn j => cases k <;> cases h
  intro k
  induction k with
  | zero =>
    intro d h
    cases d with
    | tup ds => cases h
    | _ => exact flat 0 _ (fun ds e => nomatch e) h
  | succ k ih =>
    intro d h
    cases d with
    | tup ds =>
      have h' : ∀ d ∈ ds, repS k d = true := fun d hd => List.all_eq_true.mp (show ds.all (repS k) = true from h) d hd
      have all := fun d hd => ih d (h' d hd)
      rw [D.toPy, toPys_map]
      refine ⟨?_, ?_, ?_, ?_⟩
      · rw [PyData.canLay0, lay_all, List.all_map, List.all_eq_true]
        exact fun d hd => (all d hd).1
      · rw [PyData.showable, show_all, List.all_map, List.all_eq_true]
        exact fun d hd => (all d hd).2.1
      · rw [PyData.depth]
        have := depth_all (k := k) (ds := ds.map D.toPy) (fun p hp => by
          obtain ⟨d, hd, e⟩ := List.mem_map.mp hp
          rw [← e]
          exact (all d hd).2.2.1)
        omega
      · rw [PyData.shown, shown_all, List.map_map]
        refine Nat.le_trans (tupleText_len_le _) ?_
        rw [List.map_map, List.length_map]
        have := sum_le_map (f := (fun x : PySem.Str => x.length) ∘ (PyData.shown ∘ D.toPy)) (g := repLen k) (ds := ds) (fun d hd => (all d hd).2.2.2)
        show _ ≤ (ds.map (repLen k)).sum + 2 * ds.length + 3
        omega
    | _ => exact flat (k + 1) _ (fun ds e => nomatch e) h
theorem shows_tup {ds : List D} (k : Nat) (hk : k ≤ 60) (h : repS k (.tup ds) = true) (hl : repLen k (.tup ds) ≤ 16777216) : Shows (.tup ds) := by
  obtain ⟨h1, h2, h3, h4⟩ := repS_ok k _ h
  refine ⟨_, if_pos ?_⟩
  unfold D.repOk
  rw [h1, h2]
  have e : sizeLine = 16777216 := sizeLine_v
  rw [Bool.true_and, Bool.true_and, Bool.and_eq_true]
  exact ⟨decide_eq_true (by omega), decide_eq_true (by omega)⟩
theorem half_mod {a b : Int} (h0 : 0 < b) (h1 : b ≤ a) : 2 * (a % b) < a := by
  have e := Int.emod_add_mul_ediv a b
  have h2 := Int.emod_lt_of_pos a h0
  have h3 : 1 ≤ a / b := by
    rw [Int.le_ediv_iff_mul_le h0]
    omega
  have h4 : b * 1 ≤ b * (a / b) := Int.mul_le_mul_of_nonneg_left h3 (by omega)
  omega
def divisorBody : CSs := (.cons (.ife (.cmp .eq (.var 1) (.cst (.int (0)))) (.cons (.ret (.bi .abs (.cons (.var 0) .nil))) .nil) .nil) (.cons (.asl [0, 1] (.cons (.var 1) (.cons (.bin .mod (.bi .int (.cons (.var 0) .nil)) (.var 1)) .nil))) .nil))
theorem divLoop : ∀ (k : Nat) (xs : List D) (a b : Int) (s : Slot), nio s = true → 0 ≤ b → b < 2 ^ k → b ≤ a → 2 * k < xs.length → ∃ (e : En), outsOf [false, false] e = some [] ∧
    doF cl L (.nm 2) divisorBody xs [.val (.int a), .val (.int b), s] = some (.rt (.val (.int (Int.gcd a b))) e) := by
  have stop : ∀ (x : D) (xs : List D) (a : Int) (s : Slot), nio s = true → ∃ (e : En), outsOf [false, false] e = some [] ∧ doF cl L (.nm 2) divisorBody (x :: xs) [.val (.int a), .val (.int 0), s] = some (.rt (.val (.int (Int.gcd a 0))) e) := fun x xs a s hs => by
    refine ⟨[.val (.int a), .val (.int 0), .val x], rfl, ?_⟩
    have : (if a < 0 then -a else a) = (Int.gcd a 0 : Int) := by
      rw [Int.gcd_zero_right]
      split <;> omega
    unfold divisorBody
    simp_arith [f_cons, hs, this]
  have turn : ∀ (x : D) (xs : List D) (a b : Int) (s : Slot), nio s = true → 0 < b → (∃ (e : En), outsOf [false, false] e = some [] ∧ doF cl L (.nm 2) divisorBody xs [.val (.int b), .val (.int (a % b)), .val x] = some (.rt (.val (.int (Int.gcd b (a % b)))) e)) →
      ∃ (e : En), outsOf [false, false] e = some [] ∧ doF cl L (.nm 2) divisorBody (x :: xs) [.val (.int a), .val (.int b), s] = some (.rt (.val (.int (Int.gcd a b))) e) := fun x xs a b s hs hb ⟨e, e1, e2⟩ => by
    refine ⟨e, e1, ?_⟩
    rw [gcd_step] at e2
    rw [← e2, f_step]
    have hb' : (b == 0) = false := by simpa using (by omega : b ≠ 0)
    unfold divisorBody
    simp_arith [hs, hb', mod_int hb]
  intro k
  induction k with
  | zero =>
    intro xs a b s hs h0 h1 h2 h3
    have hb : b = 0 := by omega
    subst hb
    cases xs with
    | nil => simp at h3
    | cons x xs => exact stop x xs a s hs
  | succ k ih =>
    intro xs a b s hs h0 h1 h2 h3
    match xs, h3 with
    | x :: y :: xs, h3 =>
      rw [List.length_cons, List.length_cons] at h3
      by_cases hb : b = 0
      · subst hb; exact stop x _ a s hs
      · have hb0 : 0 < b := by omega
        refine turn x _ a b s hs hb0 ?_
        have m0 := Int.emod_nonneg a hb
        have m1 := Int.emod_lt_of_pos a hb0
        by_cases hm : a % b = 0
        · rw [hm]; exact stop y _ b _ rfl
        · have hm0 : 0 < a % b := by omega
          refine turn y _ b (a % b) _ rfl hm0 ?_
          have n0 := Int.emod_nonneg b hm
          have n1 := Int.emod_lt_of_pos b hm0
          have n2 := half_mod hm0 (Int.le_of_lt m1)
          have e : (2 : Int) ^ (k + 1) = 2 * 2 ^ k := by rw [Int.pow_succ, Int.mul_comm]
          exact ih xs (a % b) (b % (a % b)) (.val y) rfl n0 (by omega) (by omega) (by omega)
    | [x], h3 => simp at h3
    | [], h3 => simp at h3
theorem range1000 : (rangeD 0 (1000 : Int).toNat).length = 1000 := by unfold rangeD; rw [List.length_map, List.length_range]; rfl
theorem run_divisor {a b : Int} (h0 : 0 ≤ b) (h1 : b < 2 ^ 250) : runDef cl L ⟨[false, false], 3, cDivisor⟩ [.val (.int a), .val (.int b)] = some (.val (.int (Int.gcd a b)), []) := by
  have hs : decide (Small (1000 : Int)) = true := by decide
  generalize hr : rangeD 0 (1000 : Int).toNat = ys
  have hl : ys.length = 1000 := by rw [← hr]; exact range1000
  have q : ∃ (e : En), outsOf [false, false] e = some [] ∧ doF cl L (.nm 2) divisorBody ys [.val (.int a), .val (.int b), .nil] = some (.rt (.val (.int (Int.gcd a b))) e) := by
    cases ys with
    | nil => simp at hl
    | cons x xs =>
      rw [List.length_cons] at hl
      by_cases hb : b = 0
      · subst hb
        refine ⟨[.val (.int a), .val (.int 0), .val x], rfl, ?_⟩
        have : (if a < 0 then -a else a) = (Int.gcd a 0 : Int) := by
          rw [Int.gcd_zero_right]
          split <;> omega
        unfold divisorBody
        simp_arith [f_cons, this]
      · have hb0 : 0 < b := by omega
        have m0 := Int.emod_nonneg a hb
        have m1 := Int.emod_lt_of_pos a hb0
        obtain ⟨e, e1, e2⟩ := divLoop (cl := cl) (L := L) 250 xs b (a % b) (.val x) rfl m0 (Int.lt_trans m1 h1) (by omega) (by omega)
        refine ⟨e, e1, ?_⟩
        rw [gcd_step] at e2
        rw [← e2, f_step]
        have hb' : (b == 0) = false := by simpa using hb
        unfold divisorBody
        simp_arith [hb', mod_int hb0]
  obtain ⟨e, e1, e2⟩ := q
  unfold divisorBody at e2
  simp only [cDivisor]
  simp_arith [hs, hr, e1, e2]
theorem run_lowest {jd : Nat} {a b : Int} (a0 : 0 < a) (h0 : 0 < b) (h1 : b < 2 ^ 250) (hd : cl jd [.val (.int a), .val (.int b)] = some (.val (.int (Int.gcd a b)), [])) : runDef cl L ⟨[false, false], 3, cLowest jd⟩ [.val (.int a), .val (.int b)] = some (.val (.tup [.int (a / Int.gcd a b), .int (b / Int.gcd a b)]), []) := by
  have g0 : 0 < (Int.gcd a b : Int) := by
    have : Int.gcd a b ≠ 0 := by rw [Ne, Int.gcd_eq_zero_iff]; omega
    omega
  have gle : (Int.gcd a b : Int) ≤ b := Int.le_of_dvd h0 (Int.gcd_dvd_right a b)
  have dk : DivOk (Int.gcd a b : Int) := ⟨g0, by
    have : (Int.gcd a b : Int).natAbs.log2 < 250 := log_lt (by omega) (by
      have e : ((2 : Int) ^ 250) = ((2 ^ 250 : Nat) : Int) := by norm_cast
      rw [e] at h1
      omega)
    omega⟩
  simp only [cLowest]
  simp_arith [hd, fdiv_int dk]
end
theorem doC_pure {cl : Oracle} {elt : CE} {t : Tg} {cond : CE} {vs : List Nat} {env : En} (g : D → Option D) : ∀ (xs acc : List D), (∀ x ∈ xs, stepC cl elt t cond vs x env = some (g x, env)) → doC cl elt t cond vs xs env acc = some (acc ++ xs.filterMap g, env)
  | [], acc, _ => by rw [d_nil]; simp
  | x :: xs, acc, h => by
    rw [d_cons, h x List.mem_cons_self, bindO_some]
    cases hg : g x with
    | none =>
      simp only
      rw [doC_pure g xs acc fun y hy => h y (List.mem_cons_of_mem _ hy), List.filterMap_cons, hg]
    | some d =>
      simp only
      rw [doC_pure g xs (acc ++ [d]) fun y hy => h y (List.mem_cons_of_mem _ hy), List.filterMap_cons, hg]
      simp
theorem doC_map {cl : Oracle} {elt : CE} {t : Tg} {cond : CE} {vs : List Nat} {env : En} (g : D → D) (xs : List D) (h : ∀ x ∈ xs, stepC cl elt t cond vs x env = some (some (g x), env)) : doC cl elt t cond vs xs env [] = some (xs.map g, env) := by
  rw [doC_pure (fun x => some (g x)) xs [] h]
  simp [List.filterMap_eq_map]
def upI (lo : Int) (n : Nat) : List Int := (List.range n).map fun (k : Nat) => lo + (k : Int)
theorem rangeD_up (lo : Int) (n : Nat) : rangeD lo n = (upI lo n).map D.int := by
  unfold rangeD upI
  rw [List.map_map]
  rfl
theorem mem_up {lo x : Int} {n : Nat} : x ∈ upI lo n ↔ lo ≤ x ∧ x < lo + n := by
  unfold upI
  rw [List.mem_map]
  constructor
  · rintro ⟨k, hk, rfl⟩
    have := List.mem_range.mp hk
    omega
  · intro h
    exact ⟨(x - lo).toNat, List.mem_range.mpr (by omega), by omega⟩
theorem up_length (lo : Int) (n : Nat) : (upI lo n).length = n := by unfold upI; simp
theorem doC_ints {cl : Oracle} {elt : CE} {t : Tg} {cond : CE} {vs : List Nat} {env : En} (f : Int → Bool) (g : Int → D) (xs : List Int) (h : ∀ x ∈ xs, stepC cl elt t cond vs (.int x) env = some (if f x = true then some (g x) else none, env)) : doC cl elt t cond vs (xs.map D.int) env [] = some ((xs.filter f).map g, env) := by
  rw [doC_pure (fun d => match d with | .int x => if f x = true then some (g x) else none | _ => none) (xs.map D.int) [] (fun x hx => by
    obtain ⟨y, hy, rfl⟩ := List.mem_map.mp hx
    exact h y hy)]
  congr 2
  rw [List.nil_append, List.filterMap_map]
  clear h
  induction xs with
  | nil => rfl
  | cons x xs ih =>
    rw [List.filterMap_cons, List.filter_cons]
    simp only [Function.comp_apply]
    by_cases hx : f x = true
    · simp only [hx, if_true]
      rw [ih]
      rfl
    · simp only [hx, if_false, Bool.false_eq_true]
      exact ih
theorem shp_ints (xs : List Int) : (D.ls (xs.map D.int)).shp = true ∧ (D.tup (xs.map D.int)).shp = true := by
  have h1 : PyData.canLayAll0 (D.toPys (xs.map D.int)) = true := by
    induction xs with
    | nil => rfl
    | cons x xs ih => rw [List.map_cons, D.toPys, PyData.canLayAll0, ih]; rfl
  have h2 : PyData.depthAll (D.toPys (xs.map D.int)) ≤ 0 := by
    rw [toPys_map]
    apply depth_all
    intro d hd
    rw [List.map_map] at hd
    obtain ⟨x, _, rfl⟩ := List.mem_map.mp hd
    exact Nat.le_refl 0
  constructor <;>
  · unfold D.shp SeqAt.shaped
    rw [D.toPy, PyData.canLay0, h1, PyData.depth]
    exact decide_eq_true (by omega)
theorem eqvs_ints : ∀ (xs ys : List Int), D.eqvs (xs.map D.int) (ys.map D.int) = (xs == ys)
  | [], [] => rfl
  | [], _ :: _ => rfl
  | _ :: _, [] => rfl
  | x :: xs, y :: ys => by
    rw [List.map_cons, List.map_cons, D.eqvs, eqvs_ints xs ys]
    rfl
theorem cmp_eq {a b : D} (h1 : a.shp = true) (h2 : b.shp = true) : evalCmp .eq a b = some (D.eqv a b) := by
  have e : evalCmp .eq a b = eqC a b := by simp only [evalCmp]
  rw [e]
  unfold eqC
  split
  · rfl
  · rw [if_pos ⟨h1, h2⟩]
theorem cmp_ne {a b : D} (h1 : a.shp = true) (h2 : b.shp = true) : evalCmp .ne a b = some (!D.eqv a b) := by
  have e : evalCmp .ne a b = (eqC a b).map (!·) := by simp only [evalCmp]
  rw [e]
  unfold eqC
  split
  · rfl
  · rw [if_pos ⟨h1, h2⟩]
    rfl
theorem eq_ints {xs ys : List Int} : evalCmp .eq (.ls (xs.map D.int)) (.ls (ys.map D.int)) = some (xs == ys) := by
  rw [cmp_eq (shp_ints xs).1 (shp_ints ys).1, D.eqv, eqvs_ints]
theorem ne_ints {xs ys : List Int} : evalCmp .ne (.ls (xs.map D.int)) (.ls (ys.map D.int)) = some (!(xs == ys)) := by
  rw [cmp_ne (shp_ints xs).1 (shp_ints ys).1, D.eqv, eqvs_ints]
theorem eq_intsT {xs ys : List Int} : evalCmp .eq (.tup (xs.map D.int)) (.tup (ys.map D.int)) = some (xs == ys) := by
  rw [cmp_eq (shp_ints xs).2 (shp_ints ys).2, D.eqv, eqvs_ints]
theorem ne_intsT {xs ys : List Int} : evalCmp .ne (.tup (xs.map D.int)) (.tup (ys.map D.int)) = some (!(xs == ys)) := by
  rw [cmp_ne (shp_ints xs).2 (shp_ints ys).2, D.eqv, eqvs_ints]
theorem eq_nilI {xs : List Int} : evalCmp .eq (.ls (xs.map D.int)) (.ls []) = some xs.isEmpty := by
  have := eq_ints (xs := xs) (ys := [])
  rw [List.map_nil] at this
  rw [this]
  cases xs <;> rfl
theorem ne_nilI {xs : List Int} : evalCmp .ne (.ls (xs.map D.int)) (.ls []) = some (!xs.isEmpty) := by
  have := ne_ints (xs := xs) (ys := [])
  rw [List.map_nil] at this
  rw [this]
  cases xs <;> rfl
theorem fill_zero (n : Nat) : (List.replicate n [D.int 0]).flatten = List.replicate n (D.int 0) := by
  induction n with
  | zero => rfl
  | succ n ih => rw [List.replicate_succ, List.flatten_cons, ih]; rfl
theorem doF_inv {cl : Oracle} {L : Nat} {t : Tg} {b : CSs} (I : List D → En → Prop) (h : ∀ x xs e, I (x :: xs) e → ∃ e', (bindO (bindTg t x e) fun e1 => evalSs cl L b e1) = some (.nx e') ∧ I xs e') : ∀ (xs : List D) (e : En), I xs e → ∃ e', doF cl L t b xs e = some (.nx e') ∧ I [] e'
  | [], e, hi => ⟨e, f_nil, hi⟩
  | x :: xs, e, hi => by
    obtain ⟨e1, h1, h2⟩ := h x xs e hi
    obtain ⟨e', q1, q2⟩ := doF_inv I h xs e1 h2
    exact ⟨e', by rw [f_step h1]; exact q1, q2⟩
end Pi

-- PiMath
namespace Pi
def sm : Nat → (Nat → Nat) → Nat
  | 0, _ => 0
  | n + 1, f => sm n f + f n
theorem sm_congr {f g : Nat → Nat} : ∀ {n : Nat}, (∀ k, k < n → f k = g k) → sm n f = sm n g
  | 0, _ => rfl
  | n + 1, h => by
    unfold sm
    rw [sm_congr (n := n) fun k hk => h k (by omega), h n (by omega)]
theorem sm_add (f g : Nat → Nat) : ∀ n, sm n (fun k => f k + g k) = sm n f + sm n g
  | 0 => rfl
  | n + 1 => by
    show sm n (fun k => f k + g k) + (f n + g n) = (sm n f + f n) + (sm n g + g n)
    rw [sm_add f g n]
    omega
theorem sm_zero : ∀ n, sm n (fun _ => 0) = 0
  | 0 => rfl
  | n + 1 => by
    show sm n (fun _ => 0) + 0 = 0
    rw [sm_zero n]
theorem sm_const (c : Nat) : ∀ n, sm n (fun _ => c) = n * c
  | 0 => by simp [sm]
  | n + 1 => by
    unfold sm
    rw [sm_const c n, Nat.succ_mul]
theorem sm_mulL (c : Nat) (f : Nat → Nat) : ∀ n, sm n (fun k => c * f k) = c * sm n f
  | 0 => rfl
  | n + 1 => by
    unfold sm
    rw [sm_mulL c f n, Nat.mul_add]
theorem sm_swap (f : Nat → Nat → Nat) (m : Nat) : ∀ n, sm n (fun k => sm m (f k)) = sm m (fun j => sm n fun k => f k j)
  | 0 => by
    show 0 = sm m fun j => 0
    rw [sm_zero]
  | n + 1 => by
    show sm n (fun k => sm m (f k)) + sm m (f n) = sm m (fun j => sm n (fun k => f k j) + f n j)
    rw [sm_swap f m n, sm_add]
theorem sm_delta (φ : Nat → Nat) {a : Nat} : ∀ {m : Nat}, a < m → sm m (fun j => if a = j then φ j else 0) = φ a
  | m + 1, h => by
    show sm m (fun j => if a = j then φ j else 0) + (if a = m then φ m else 0) = φ a
    by_cases e : a = m
    · subst e
      rw [if_pos rfl, sm_congr (g := fun _ => 0) fun k hk => if_neg (by omega), sm_zero]
      omega
    · rw [if_neg e, sm_delta φ (show a < m by omega)]
      rfl
theorem sm_one {σ : Nat → Nat} {j n k0 : Nat} (h0 : k0 < n) (e : σ k0 = j) (u : ∀ k, k < n → σ k = j → k = k0) : sm n (fun k => if σ k = j then 1 else 0) = 1 := by
  rw [sm_congr (g := fun k => if k0 = k then 1 else 0), sm_delta (fun _ => 1) h0]
  intro k hk
  by_cases h : σ k = j
  · rw [if_pos h, if_pos (u k hk h).symm]
  · rw [if_neg h, if_neg fun z => h (by rw [← z]; exact e)]
theorem sm_perm {σ τ : Nat → Nat} {m : Nat} (h1 : ∀ k, k < m → σ k < m) (h2 : ∀ j, j < m → τ j < m ∧ σ (τ j) = j) (h3 : ∀ k, k < m → τ (σ k) = k) (φ : Nat → Nat) : sm m (fun k => φ (σ k)) = sm m φ := by
  rw [sm_congr (g := fun k => sm m fun j => if σ k = j then φ j else 0) fun k hk => (sm_delta φ (h1 k hk)).symm, sm_swap]
  apply sm_congr
  intro j hj
  rw [sm_congr (g := fun k => φ j * if σ k = j then 1 else 0) fun k _ => by split <;> simp, sm_mulL]
  rw [sm_one (k0 := τ j) (h2 j hj).1 (h2 j hj).2 fun k hk e => by rw [← e, h3 k hk], Nat.mul_one]
theorem sm_split (f : Nat → Nat) (a : Nat) : ∀ b, sm (a + b) f = sm a f + sm b (fun k => f (a + k))
  | 0 => rfl
  | b + 1 => by
    show sm (a + b) f + f (a + b) = _
    rw [sm_split f a b]
    show _ = sm a f + (sm b (fun k => f (a + k)) + f (a + b))
    omega
theorem sm_mul (f : Nat → Nat) (p : Nat) : ∀ m, sm (p * m) f = sm p (fun a => sm m (fun k => f (a + p * k)))
  | 0 => by
    rw [Nat.mul_zero]
    show 0 = sm p fun _ => 0
    rw [sm_zero]
  | m + 1 => by
    rw [Nat.mul_succ, sm_split, sm_mul f p m]
    show _ = sm p fun a => sm m (fun k => f (a + p * k)) + f (a + p * m)
    rw [sm_add]
    congr 1
    exact sm_congr fun k _ => by rw [Nat.add_comm]
theorem sm_lt (N : Nat) : ∀ {m : Nat}, N ≤ m → sm m (fun j => if j < N then 1 else 0) = N
  | 0, h => by
    have : N = 0 := by omega
    subst this
    rfl
  | m + 1, h => by
    show sm m (fun j => if j < N then 1 else 0) + (if m < N then 1 else 0) = N
    by_cases e : N = m + 1
    · subst e
      rw [if_pos (by omega), sm_congr (g := fun _ => 1) fun k hk => if_pos (by omega), sm_const]
      omega
    · rw [if_neg (by omega), sm_lt N (show N ≤ m by omega)]
      rfl
theorem bezout (a b : Nat) : ∃ x y : Int, x * a + y * b = Nat.gcd a b := by
  induction a, b using Nat.gcd.induction with
  | H0 n => exact ⟨0, 1, by simp⟩
  | H1 m n hm ih =>
    obtain ⟨x, y, h⟩ := ih
    refine ⟨y - x * ((n / m : Nat) : Int), x, ?_⟩
    rw [Nat.gcd_rec m n, ← h]
    have e : ((n % m : Nat) : Int) = (n : Int) - (m : Int) * ((n / m : Nat) : Int) := by
      have := Nat.div_add_mod n m
      have h2 : (m : Int) * ((n / m : Nat) : Int) + ((n % m : Nat) : Int) = (n : Int) := by
        rw [← Int.natCast_mul, ← Int.natCast_add, this]
      omega
    rw [e]
    grind
theorem inv_ex {v m : Int} (hm : 0 < m) (h : Int.gcd v m = 1) : ∃ i : Int, m ∣ i * v - 1 := by
  obtain ⟨x, y, e⟩ := bezout v.natAbs m.natAbs
  have e1 : (Nat.gcd v.natAbs m.natAbs : Int) = 1 := by
    have : Nat.gcd v.natAbs m.natAbs = 1 := h
    rw [this]; rfl
  rw [e1] at e
  have hm' : (m.natAbs : Int) = m := by omega
  rw [hm'] at e
  rcases Int.le_total 0 v with hv | hv
  · refine ⟨x, ⟨-y, ?_⟩⟩
    have hv' : (v.natAbs : Int) = v := by omega
    rw [hv'] at e
    grind
  · refine ⟨-x, ⟨-y, ?_⟩⟩
    have hv' : (v.natAbs : Int) = -v := by omega
    rw [hv'] at e
    grind
theorem emod_of' {x p r : Int} (h0 : 0 ≤ r) (h1 : r < p) (h : p ∣ x - r) : x % p = r := by
  have e : x % p = r % p := by
    rw [Int.emod_eq_emod_iff_emod_sub_eq_zero]
    exact Int.emod_eq_zero_of_dvd h
  rw [e, Int.emod_eq_of_lt h0 h1]
theorem emod_cong {x y p : Int} (h : p ∣ x - y) : x % p = y % p := by
  rw [Int.emod_eq_emod_iff_emod_sub_eq_zero]
  exact Int.emod_eq_zero_of_dvd h
theorem sm_res {u v : Int} {m : Nat} (hm : 0 < m) (h : Int.gcd v m = 1) (φ : Int → Nat) : sm m (fun k => φ ((u + v * (k : Int)) % (m : Int))) = sm m (fun j => φ (j : Int)) := by
  obtain ⟨i, hi⟩ := inv_ex (v := v) (m := (m : Int)) (by omega) h
  have b : ∀ x : Int, 0 ≤ x % (m : Int) ∧ x % (m : Int) < m := fun x => ⟨Int.emod_nonneg _ (by omega), Int.emod_lt_of_pos _ (by omega)⟩
  have dv : ∀ x : Int, (m : Int) ∣ x - x % (m : Int) := fun x => Int.dvd_self_sub_emod
  have q := sm_perm (σ := fun k => ((u + v * (k : Int)) % (m : Int)).toNat) (τ := fun j => ((((j : Int) - u) * i) % (m : Int)).toNat) (m := m)
    (fun k hk => by have := b (u + v * (k : Int)); omega)
    (fun j hj => by
      have b1 := b (((j : Int) - u) * i)
      refine ⟨by omega, ?_⟩
      have e : ((((((j : Int) - u) * i) % (m : Int)).toNat : Nat) : Int) = (((j : Int) - u) * i) % (m : Int) := by omega
      simp only [e]
      have : (u + v * ((((j : Int) - u) * i) % (m : Int))) % (m : Int) = j := by
        apply emod_of' (by omega) (by omega)
        have d1 := dv (((j : Int) - u) * i)
        generalize (((j : Int) - u) * i) % (m : Int) = y at *
        have e2 : u + v * y - (j : Int) = ((j : Int) - u) * (i * v - 1) - v * (((j : Int) - u) * i - y) := by grind
        rw [e2]
        exact Int.dvd_sub (Int.dvd_mul_of_dvd_right hi) (Int.dvd_mul_of_dvd_right d1)
      rw [this]
      omega)
    (fun k hk => by
      have b1 := b (u + v * (k : Int))
      have e : ((((u + v * (k : Int)) % (m : Int)).toNat : Nat) : Int) = (u + v * (k : Int)) % (m : Int) := by omega
      simp only [e]
      have : (((u + v * (k : Int)) % (m : Int) - u) * i) % (m : Int) = k := by
        apply emod_of' (by omega) (by omega)
        have d1 := dv (u + v * (k : Int))
        generalize (u + v * (k : Int)) % (m : Int) = y at *
        have e2 : (y - u) * i - (k : Int) = (k : Int) * (i * v - 1) - i * (u + v * (k : Int) - y) := by grind
        rw [e2]
        exact Int.dvd_sub (Int.dvd_mul_of_dvd_right hi) (Int.dvd_mul_of_dvd_right d1)
      rw [this]
      omega)
    (fun j => φ (j : Int))
  rw [← q]
  apply sm_congr
  intro k hk
  have b1 := b (u + v * (k : Int))
  have e : ((((u + v * (k : Int)) % (m : Int)).toNat : Nat) : Int) = (u + v * (k : Int)) % (m : Int) := by omega
  simp only [e]
theorem sm_win {f : Int → Nat} {P : Nat} (hP : 0 < P) (per : ∀ x y : Int, (P : Int) ∣ x - y → f x = f y) (w : Int) : sm P (fun k => f (w + (k : Int))) = sm P (fun k => f (k : Int)) := by
  rw [← sm_res (u := w) (v := 1) hP (by simp) f]
  apply sm_congr
  intro k hk
  apply per
  rw [Int.one_mul]
  exact Int.dvd_self_sub_emod
theorem sm_wins {f : Int → Nat} {P : Nat} (hP : 0 < P) (per : ∀ x y : Int, (P : Int) ∣ x - y → f x = f y) (w : Int) (r : Nat) : ∀ t : Nat, sm (r + t * P) (fun k => f (w + (k : Int))) = t * sm P (fun k => f (k : Int)) + sm r (fun k => f (w + (k : Int)))
  | 0 => by rw [Nat.zero_mul, Nat.zero_mul, Nat.add_zero, Nat.zero_add]
  | t + 1 => by
    rw [Nat.succ_mul, ← Nat.add_assoc, sm_split, sm_wins hP per w r t, Nat.succ_mul]
    have := sm_win hP per (w + ((r + t * P : Nat) : Int))
    rw [← this]
    have e : sm P (fun k => f (w + ((r + t * P + k : Nat) : Int))) = sm P (fun k => f (w + ((r + t * P : Nat) : Int) + (k : Int))) := sm_congr fun k _ => by
      congr 1
      rw [Int.natCast_add (r + t * P) k]
      omega
    rw [e]
    omega
theorem emod_prod {x g m : Int} (hg : 0 < g) (hm : 0 < m) : x % (g * m) = x % g + g * ((x / g) % m) := by
  have a0 := Int.emod_nonneg x (show g ≠ 0 by omega)
  have a1 := Int.emod_lt_of_pos x hg
  have b0 := Int.emod_nonneg (x / g) (show m ≠ 0 by omega)
  have b1 := Int.emod_lt_of_pos (x / g) hm
  have c0 : 0 ≤ g * ((x / g) % m) := Int.mul_nonneg (by omega) b0
  have c1 : g * ((x / g) % m + 1) ≤ g * m := Int.mul_le_mul_of_nonneg_left (by omega) (by omega)
  rw [Int.mul_add, Int.mul_one] at c1
  apply emod_of' (by omega) (by omega)
  have e1 := Int.emod_add_mul_ediv x g
  have e2 := Int.emod_add_mul_ediv (x / g) m
  refine ⟨x / g / m, ?_⟩
  generalize x / g % m = y at *
  generalize x / g / m = z at *
  have : x = x % g + g * (y + m * z) := by rw [e2]; exact e1.symm
  generalize x % g = w at *
  grind
theorem sm_below {s g q : Int} {m : Nat} (hg : 0 < g) (s0 : 0 ≤ s) (s1 : s < g) (q0 : 0 ≤ q) (hq : q ≤ g * m) : (sm m (fun j => if s + g * (j : Int) < q then 1 else 0) : Int) = q / g + (if s < q % g then 1 else 0) := by
  have e1 := Int.emod_add_mul_ediv q g
  have r0 := Int.emod_nonneg q (show g ≠ 0 by omega)
  have r1 := Int.emod_lt_of_pos q hg
  have k0 : 0 ≤ q / g := Int.ediv_nonneg q0 (by omega)
  have lt_iff : ∀ j : Int, (s + g * j < q) ↔ j < q / g + (if s < q % g then 1 else 0) := fun j => by
    rcases Int.lt_trichotomy j (q / g) with h | h | h
    · have := Int.mul_le_mul_of_nonneg_left (show j + 1 ≤ q / g by omega) (show 0 ≤ g by omega)
      rw [Int.mul_add, Int.mul_one] at this
      constructor
      · intro _; split <;> omega
      · intro _; omega
    · subst h
      by_cases h2 : s < q % g
      · rw [if_pos h2]; omega
      · rw [if_neg h2]; omega
    · have := Int.mul_le_mul_of_nonneg_left (show q / g + 1 ≤ j by omega) (show 0 ≤ g by omega)
      rw [Int.mul_add, Int.mul_one] at this
      constructor
      · intro _; omega
      · intro h3; split at h3 <;> omega
  generalize hN : q / g + (if s < q % g then 1 else 0) = N at *
  have N0 : 0 ≤ N := by rw [← hN]; split <;> omega
  have Nm : N ≤ m := by
    rcases Int.lt_or_le (m : Int) N with h | h
    · have h2 := (lt_iff m).mpr h
      omega
    · exact h
  have : sm m (fun j => if s + g * (j : Int) < q then 1 else 0) = sm m (fun j => if j < N.toNat then 1 else 0) := sm_congr fun j _ => by
    by_cases h : s + g * (j : Int) < q
    · have h2 := (lt_iff j).mp h
      rw [if_pos h, if_pos (by omega)]
    · have h2 : ¬ ((j : Int) < N) := fun z => h ((lt_iff j).mpr z)
      rw [if_neg h, if_neg (by omega)]
  rw [this, sm_lt N.toNat (by omega)]
  omega
end Pi

-- K83M
set_option maxHeartbeats 4000000
namespace K83
open Pi
def H (p q c d : Int) : Bool := decide ((q * d + q - 1 - c) % p < q)
def ind (b : Bool) : Nat := if b = true then 1 else 0
theorem H_mod {p q c d d' : Int} (h : p ∣ d - d') : H p q c d = H p q c d' := by
  unfold H
  have e : (q * d + q - 1 - c) % p = (q * d' + q - 1 - c) % p := emod_cong (by
    have : q * d + q - 1 - c - (q * d' + q - 1 - c) = q * (d - d') := by grind
    rw [this]
    exact Int.dvd_mul_of_dvd_right h)
  rw [e]
theorem H_all {p q c d : Int} (hp : 0 < p) (h : p ≤ q) : H p q c d = true := by
  have := Int.emod_lt_of_pos (q * d + q - 1 - c) hp
  exact decide_eq_true (by omega)
def ev (p q c d : Int) : Int := (q * d + q - 1 - c) / p - (q * d - 1 - c) / p
theorem ev_H {p q c d : Int} (hp : 0 < p) (hq : 0 < q) : decide (0 < ev p q c d) = H p q c d ∧ 0 ≤ ev p q c d := by
  unfold ev H
  generalize hX : q * d + q - 1 - c = X
  have e : q * d - 1 - c = X - q := by omega
  rw [e]
  have a := Int.emod_add_mul_ediv X p
  have a0 := Int.emod_nonneg X (show p ≠ 0 by omega)
  have a1 := Int.emod_lt_of_pos X hp
  by_cases h : X % p < q
  · have : (X - q) / p < X / p := by
      rw [Int.ediv_lt_iff_lt_mul hp, Int.mul_comm]
      omega
    exact ⟨by rw [decide_eq_true h, decide_eq_true (by omega)], by omega⟩
  · have : (X - q) / p = X / p := by
      apply Int.le_antisymm
      · exact Int.ediv_le_ediv hp (by omega)
      · rw [Int.le_ediv_iff_mul_le hp, Int.mul_comm]
        omega
    exact ⟨by rw [decide_eq_false h, decide_eq_false (by omega)], by omega⟩
theorem ev_ne {p q c d : Int} (hp : 0 < p) (hq : 0 < q) : (ev p q c d != 0) = H p q c d := by
  obtain ⟨h1, h2⟩ := ev_H (c := c) (d := d) hp hq
  rw [← h1]
  by_cases h : 0 < ev p q c d
  · rw [decide_eq_true h]
    simpa using (by omega : ev p q c d ≠ 0)
  · rw [decide_eq_false h]
    simpa using (by omega : ev p q c d = 0)
def dw (p q c g r : Int) : Int := if p ≤ q then p / g else q / g + (if (q * r + q - 1 - c) % g < q % g then 1 else 0)
def S (p q c g r : Int) : Nat := sm (p / g).toNat (fun j => ind (H p q c (r + g * (j : Int))))
theorem cop_of {p q m : Int} (h : Int.gcd p q = 1) (hm : m ∣ p) : Int.gcd m q = 1 := by
  have h1 := Int.gcd_dvd_left m q
  have h2 := Int.gcd_dvd_right m q
  have h3 := Int.dvd_coe_gcd (Int.dvd_trans h1 hm) h2
  rw [h] at h3
  have := Int.natAbs_dvd_natAbs.mpr h3
  exact Nat.dvd_one.mp this
theorem S_dw {p q c g r : Int} (hp : 0 < p) (hq : 0 < q) (hg : 0 < g) (hgp : g ∣ p) (hc : Int.gcd p q = 1) : (S p q c g r : Int) = dw p q c g r := by
  have e1 : g * (p / g) = p := Int.mul_ediv_cancel' hgp
  have m0 : 0 < p / g := Int.ediv_pos_of_pos_of_dvd hp (by omega) hgp
  unfold S dw
  by_cases hpq : p ≤ q
  · rw [if_pos hpq, sm_congr (g := fun _ => 1) fun k _ => by rw [H_all hp hpq]; rfl, sm_const]
    omega
  · rw [if_neg hpq]
    generalize hm : p / g = m at *
    have hm' : ((m.toNat : Nat) : Int) = m := by omega
    have hcop : Int.gcd q m = 1 := by
      rw [Int.gcd_comm]
      exact cop_of hc ⟨g, by rw [Int.mul_comm]; exact e1.symm⟩
    generalize hs : (q * r + q - 1 - c) % g = s
    have s0 : 0 ≤ s := by rw [← hs]; exact Int.emod_nonneg _ (by omega)
    have s1 : s < g := by rw [← hs]; exact Int.emod_lt_of_pos _ hg
    have step : sm m.toNat (fun j => ind (H p q c (r + g * (j : Int)))) = sm m.toNat (fun j => (fun x : Int => ind (decide (s + g * x < q))) (((q * r + q - 1 - c) / g + q * (j : Int)) % ((m.toNat : Nat) : Int))) := sm_congr fun j _ => by
      unfold H
      simp only
      rw [hm', ← e1]
      have e2 : q * (r + g * (j : Int)) + q - 1 - c = (q * r + q - 1 - c) + g * (q * (j : Int)) := by grind
      rw [e2, emod_prod hg m0, Int.add_mul_emod_self_left, Int.add_mul_ediv_left _ _ (show g ≠ 0 by omega), hs]
    have res := step.trans (sm_res (u := (q * r + q - 1 - c) / g) (v := q) (m := m.toNat) (by omega) (by rw [hm']; exact hcop) (fun x : Int => ind (decide (s + g * x < q))))
    rw [res]
    have := sm_below (s := s) (g := g) (q := q) (m := m.toNat) hg s0 s1 (by omega) (by rw [hm', e1]; omega)
    rw [← this]
    congr 1
    exact sm_congr fun j _ => by unfold ind; simp
theorem dw_pos {p q c g r : Int} (hp : 0 < p) (hq : 0 < q) (hg : 0 < g) (hgp : g ∣ p) : decide (0 < dw p q c g r) = H g q c r ∧ 0 ≤ dw p q c g r := by
  have hle : g ≤ p := Int.le_of_dvd hp hgp
  have m0 : 0 < p / g := Int.ediv_pos_of_pos_of_dvd hp (by omega) hgp
  unfold dw
  by_cases hpq : p ≤ q
  · rw [if_pos hpq, H_all hg (by omega)]
    exact ⟨decide_eq_true m0, by omega⟩
  · rw [if_neg hpq]
    have k0 : 0 ≤ q / g := Int.ediv_nonneg (by omega) (by omega)
    by_cases hgq : g ≤ q
    · have : 1 ≤ q / g := by
        rw [Int.le_ediv_iff_mul_le hg]; omega
      rw [H_all hg hgq]
      refine ⟨decide_eq_true ?_, ?_⟩ <;> split <;> omega
    · have e1 : q / g = 0 := Int.ediv_eq_zero_of_lt (by omega) (by omega)
      have e2 : q % g = q := Int.emod_eq_of_lt (by omega) (by omega)
      rw [e1, e2]
      unfold H
      by_cases h : (q * r + q - 1 - c) % g < q
      · rw [if_pos h, decide_eq_true h]; exact ⟨by decide, by omega⟩
      · rw [if_neg h, decide_eq_false h]; exact ⟨by decide, by omega⟩
theorem dw_near {p q c g r : Int} (hp : 0 < p) (hq : 0 < q) (hg : 0 < g) : dw p q c g r = min p q / g ∨ dw p q c g r = min p q / g + 1 := by
  unfold dw
  by_cases hpq : p ≤ q
  · rw [if_pos hpq, Int.min_eq_left hpq]; exact .inl rfl
  · rw [if_neg hpq, Int.min_eq_right (by omega)]
    split
    · exact .inr rfl
    · exact .inl (by omega)
theorem dw_one {p q c r : Int} (hp : 0 < p) (hq : 0 < q) : dw p q c 1 r = min p q := by
  unfold dw
  have e : q % 1 = 0 := Int.emod_one q
  have e2 : (q * r + q - 1 - c) % 1 = 0 := Int.emod_one _
  by_cases hpq : p ≤ q
  · rw [if_pos hpq, Int.ediv_one, Int.min_eq_left hpq]
  · rw [if_neg hpq, e, e2, if_neg (by omega), Int.ediv_one, Int.min_eq_right (by omega)]
    omega
theorem rests_many {q c g : Int} (hg : 0 < g) (hq : 0 < q) (hc : Int.gcd g q = 1) : (sm g.toNat (fun r => ind (H g q c (r : Int))) : Int) = min q g := by
  by_cases hgq : g ≤ q
  · rw [sm_congr (g := fun _ => 1) fun k _ => by rw [H_all hg hgq]; rfl, sm_const, Int.min_eq_right hgq]
    omega
  · have hg' : ((g.toNat : Nat) : Int) = g := by omega
    have step : sm g.toNat (fun r => ind (H g q c (r : Int))) = sm g.toNat (fun r => (fun x : Int => ind (decide (x < q))) (((q - 1 - c) + q * (r : Int)) % ((g.toNat : Nat) : Int))) := sm_congr fun r _ => by
      unfold H
      simp only
      rw [hg', show q * (r : Int) + q - 1 - c = q - 1 - c + q * (r : Int) by omega]
    have res := step.trans (sm_res (u := q - 1 - c) (v := q) (m := g.toNat) (by omega) (by rw [hg', Int.gcd_comm]; exact hc) (fun x : Int => ind (decide (x < q))))
    rw [res, Int.min_eq_left (by omega)]
    have := sm_lt q.toNat (m := g.toNat) (by omega)
    rw [sm_congr (g := fun j => if j < q.toNat then 1 else 0) fun j _ => by
      unfold ind
      by_cases h : (j : Int) < q
      · rw [if_pos (decide_eq_true h), if_pos (by omega)]
      · rw [decide_eq_false h, if_neg (by simp), if_neg (by omega)], this]
    omega
theorem two_le {n : Nat} {A B : Nat → Bool} (h : ∀ r, r < n → ¬ (A r = true ∧ B r = true)) : sm n (fun r => ind (A r)) + sm n (fun r => ind (B r)) ≤ n := by
  rw [← sm_add]
  have : ∀ m, m ≤ n → sm m (fun k => ind (A k) + ind (B k)) ≤ m := fun m => by
    induction m with
    | zero => intro _; exact Nat.le_refl _
    | succ m ih =>
      intro hm
      have h1 := ih (by omega)
      have h2 := h m (by omega)
      show sm m (fun k => ind (A k) + ind (B k)) + (ind (A m) + ind (B m)) ≤ m + 1
      unfold ind at *
      cases ha : A m <;> cases hb : B m <;> simp [ha, hb] at h2 ⊢ <;> omega
  exact this n (Nat.le_refl n)
theorem disjoint_le {g q c q' c' : Int} (hg : 0 < g) (hq : 0 < q) (hq' : 0 < q') (hc : Int.gcd g q = 1) (hc' : Int.gcd g q' = 1) (h : ∀ r : Int, 0 ≤ r → r < g → ¬ (H g q c r = true ∧ H g q' c' r = true)) : q + q' ≤ g := by
  have h1 := rests_many (c := c) hg hq hc
  have h2 := rests_many (c := c') hg hq' hc'
  have h3 := two_le (n := g.toNat) (A := fun r => H g q c (r : Int)) (B := fun r => H g q' c' (r : Int)) fun r hr => h r (by omega) (by omega)
  omega
def many (p q c p' q' c' : Int) (g : Int) : Nat := sm g.toNat (fun r => S p q c g (r : Int) * S p' q' c' g (r : Int))
def hits (p q c p' q' c' d : Int) : Bool := H p q c d && H p' q' c' d
theorem ind_and (a b : Bool) : ind (a && b) = ind a * ind b := by cases a <;> cases b <;> rfl
theorem crt {p q c p' q' c' g : Int} (hp : 0 < p) (hp' : 0 < p') (hg : 0 < g) (h1 : g ∣ p) (h2 : g ∣ p') (hc : Int.gcd (p / g) (p' / g) = 1) :
    sm (p * (p' / g)).toNat (fun d => ind (hits p q c p' q' c' (d : Int))) = many p q c p' q' c' g := by
  have e1 : g * (p / g) = p := Int.mul_ediv_cancel' h1
  have e2 : g * (p' / g) = p' := Int.mul_ediv_cancel' h2
  have n0 : 0 < p / g := Int.ediv_pos_of_pos_of_dvd hp (by omega) h1
  have m0 : 0 < p' / g := Int.ediv_pos_of_pos_of_dvd hp' (by omega) h2
  unfold many S
  generalize hn : p / g = n at *
  generalize hm : p' / g = m at *
  have gN : ((g.toNat : Nat) : Int) = g := by omega
  have nN : ((n.toNat : Nat) : Int) = n := by omega
  have mN : ((m.toNat : Nat) : Int) = m := by omega
  have pN : p.toNat = g.toNat * n.toNat := by
    rw [← e1]
    exact Int.toNat_mul (by omega) (by omega)
  have pI : ((p.toNat : Nat) : Int) = p := by omega
  rw [Int.toNat_mul (by omega) (by omega), sm_mul]
  -- each day of the first beat's period, with all days behind it by whole periods
  have inner : ∀ a : Nat, sm m.toNat (fun k => ind (hits p q c p' q' c' ((a + p.toNat * k : Nat) : Int))) = ind (H p q c (a : Int)) * sm m.toNat (fun j => ind (H p' q' c' ((a : Int) % g + g * (j : Int)))) := fun a => by
    rw [← sm_mulL]
    have st : sm m.toNat (fun k => ind (hits p q c p' q' c' ((a + p.toNat * k : Nat) : Int))) = sm m.toNat (fun k => (fun x : Int => ind (H p q c (a : Int)) * ind (H p' q' c' ((a : Int) % g + g * x))) (((a : Int) / g + n * (k : Int)) % ((m.toNat : Nat) : Int))) := sm_congr fun k _ => by
      have ek : ((a + p.toNat * k : Nat) : Int) = (a : Int) + p * (k : Int) := by rw [Int.natCast_add, Int.natCast_mul, pI]
      unfold hits
      rw [ek, ind_and]
      simp only
      congr 2
      · exact H_mod ⟨(k : Int), by omega⟩
      · apply H_mod
        have := emod_prod (x := (a : Int) + p * (k : Int)) hg m0
        rw [e2] at this
        have e3 : (a : Int) + p * (k : Int) = (a : Int) + g * (n * (k : Int)) := by rw [← e1]; grind
        have e4 : ((a : Int) + p * (k : Int)) % g = (a : Int) % g := by rw [e3, Int.add_mul_emod_self_left]
        have e5 : ((a : Int) + p * (k : Int)) / g = (a : Int) / g + n * (k : Int) := by rw [e3, Int.add_mul_ediv_left _ _ (show g ≠ 0 by omega)]
        rw [e4, e5] at this
        rw [mN, ← this]
        exact Int.dvd_self_sub_emod
    exact st.trans (sm_res (u := (a : Int) / g) (v := n) (m := m.toNat) (by omega) (by rw [mN]; exact hc) (fun x : Int => ind (H p q c (a : Int)) * ind (H p' q' c' ((a : Int) % g + g * x))))
  rw [sm_congr fun a _ => inner a, pN, sm_mul]
  apply sm_congr
  intro r hr
  rw [Nat.mul_comm (sm n.toNat _), ← sm_mulL]
  apply sm_congr
  intro j _
  have ej : ((r + g.toNat * j : Nat) : Int) = (r : Int) + g * (j : Int) := by rw [Int.natCast_add, Int.natCast_mul, gN]
  have er : ((r : Int) + g * (j : Int)) % g = (r : Int) := by
    rw [Int.add_mul_emod_self_left]
    exact Int.emod_eq_of_lt (by omega) (by omega)
  rw [ej, er, Nat.mul_comm]
theorem hits_per {p q c p' q' c' P : Int} (h1 : p ∣ P) (h2 : p' ∣ P) (x y : Int) (h : P ∣ x - y) : ind (hits p q c p' q' c' x) = ind (hits p q c p' q' c' y) := by
  unfold hits
  rw [H_mod (Int.dvd_trans h1 h), H_mod (p := p') (Int.dvd_trans h2 h)]
end K83

-- K83Defs
set_option maxHeartbeats 4000000
namespace K83
open PySem PySem.Spec PyProof.Rows L2 Pi
def top83 (i : Nat) : Stmt := PySem.Challenge.pw_evensure_k83_whole_periods_and_far_commo.main.body.getD i (.Pass ⟨0, 0, 0, 0⟩)
def b83is_integer : CSs := (.cons (.ret (.and (.isi (.var 0) .int) (.not (.isi (.var 0) .bool)))) .nil)
def b83d0 : TDef := ⟨"is_integer", top83 4, ["value"], [false], b83is_integer, []⟩
def b83is_from_to : CSs := (.cons (.ret (.and (.call 0 (.cons (.var 0) .nil) []) (.chain .le .le (.var 1) (.var 0) (.var 2)))) .nil)
def b83d1 : TDef := ⟨"is_from_to", top83 5, ["value", "least", "most"], [false, false, false], b83is_from_to, []⟩
def b83is_tuple_of : CSs := (.cons (.ret (.and (.isi (.var 0) .tuple) (.chain .le .le (.var 1) (.lenv 0) (.var 2)))) .nil)
def b83d2 : TDef := ⟨"is_tuple_of", top83 6, ["value", "least", "most"], [false, false, false], b83is_tuple_of, []⟩
def b83check_from_to : CSs := (.cons (.ife (.not (.call 1 (.cons (.var 0) (.cons (.var 1) (.cons (.var 2) .nil))) [])) (.cons .raise .nil) .nil) .nil)
def b83d3 : TDef := ⟨"check_from_to", top83 7, ["value", "least", "most", "name"], [false, false, false, false], b83check_from_to, []⟩
def b83common_divisor : CSs := (.cons (.whl (.var 1) (.cons (.asl [0, 1] (.cons (.var 1) (.cons (.bin .mod (.var 0) (.var 1)) .nil))) .nil)) (.cons (.ret (.bi .abs (.cons (.var 0) .nil))) .nil))
def b83d4 : TDef := ⟨"common_divisor", top83 10, ["one", "other"], [false, false], b83common_divisor, []⟩
def b83is_fraction : CSs := (.cons (.ife (.or (.not (.call 2 (.cons (.var 0) (.cons (.cst (.int (2))) (.cons (.cst (.int (2))) .nil))) [])) (.not (.call 1 (.cons (.ixv 0 (.cst (.int (0)))) (.cons (.neg (.gc "MOST_NUMBER" (.int (1000000000000000000000000000000000000000000000000000000000000)))) (.cons (.gc "MOST_NUMBER" (.int (1000000000000000000000000000000000000000000000000000000000000))) .nil))) []))) (.cons (.ret (.cst (.bl false))) .nil) .nil) (.cons (.ret (.and (.call 1 (.cons (.ixv 0 (.cst (.int (1)))) (.cons (.cst (.int (1))) (.cons (.gc "MOST_NUMBER" (.int (1000000000000000000000000000000000000000000000000000000000000))) .nil))) []) (.cmp .eq (.call 4 (.cons (.ixv 0 (.cst (.int (0)))) (.cons (.ixv 0 (.cst (.int (1)))) .nil)) []) (.cst (.int (1)))))) .nil))
def b83d5 : TDef := ⟨"is_fraction", top83 11, ["value"], [false], b83is_fraction, []⟩
def b83is_world : CSs := (.cons (.ret (.and (.call 2 (.cons (.var 0) (.cons (.cst (.int (3))) (.cons (.cst (.int (3))) .nil))) []) (.and (.call 5 (.cons (.slv 0 (.cst .non) (.cst (.int (2)))) .nil) []) (.call 1 (.cons (.ixv 0 (.cst (.int (2)))) (.cons (.neg (.gc "MOST_NUMBER" (.int (1000000000000000000000000000000000000000000000000000000000000)))) (.cons (.gc "MOST_NUMBER" (.int (1000000000000000000000000000000000000000000000000000000000000))) .nil))) [])))) .nil)
def b83d6 : TDef := ⟨"is_world", top83 14, ["value"], [false], b83is_world, []⟩
def b83check_day : CSs := (.cons (.drop (.call 3 (.cons (.var 0) (.cons (.neg (.gc "MOST_DAY" (.int (1000000000000000)))) (.cons (.gc "MOST_DAY" (.int (1000000000000000))) (.cons (.var 1) .nil)))) [])) .nil)
def b83d7 : TDef := ⟨"check_day", top83 15, ["value", "name"], [false, false], b83check_day, [(.str "day")]⟩
def b83day_among : CSs := (.cons (.asg (.tp [2, 3, 4]) (.var 0)) (.cons (.ret (.bin .fdiv (.bin .add (.bin .mul (.var 2) (.var 1)) (.var 4)) (.var 3))) .nil))
def b83d8 : TDef := ⟨"day_among", top83 16, ["world", "event", "p", "q", "c"], [false, false], b83day_among, []⟩
def b83inverse : CSs := (.cons (.asl [2, 3, 4, 5] (.cons (.var 1) (.cons (.bin .mod (.var 0) (.var 1)) (.cons (.cst (.int (0))) (.cons (.cst (.int (1))) .nil))))) (.cons (.whl (.cmp .gt (.var 3) (.cst (.int (1)))) (.cons (.asg (.nm 6) (.bin .fdiv (.var 2) (.var 3))) (.cons (.asl [2, 3] (.cons (.var 3) (.cons (.bin .sub (.var 2) (.bin .mul (.var 6) (.var 3))) .nil))) (.cons (.asl [4, 5] (.cons (.var 5) (.cons (.bin .sub (.var 4) (.bin .mul (.var 6) (.var 5))) .nil))) .nil)))) (.cons (.ret (.bin .mod (.var 5) (.var 1))) .nil)))
def b83d9 : TDef := ⟨"inverse", top83 18, ["p", "q", "one", "two", "low", "high", "whole"], [false, false], b83inverse, []⟩
def b83check_pair : CSs := (.cons (.fr (.tp [3, 4]) (.sq (.tup (.cons (.tup (.cons (.var 0) (.cons (.cst (.str "world")) .nil))) (.cons (.tup (.cons (.var 1) (.cons (.cst (.str "other")) .nil))) .nil)))) (.cons (.ife (.or (.not (.call 6 (.cons (.var 3) .nil) [])) (.or (.not (.call 1 (.cons (.ixv 3 (.cst (.int (0)))) (.cons (.cst (.int (1))) (.cons (.var 2) .nil))) [])) (.cmp .gt (.ixv 3 (.cst (.int (1)))) (.var 2)))) (.cons .raise .nil) .nil) .nil)) .nil)
def b83d10 : TDef := ⟨"check_pair", top83 21, ["world", "other", "most", "value", "name"], [false, false, false], b83check_pair, []⟩
def b83first_event : CSs := (.cons (.asg (.tp [2, 3, 4]) (.var 0)) (.cons (.ret (.neg (.bin .fdiv (.bin .sub (.var 4) (.bin .mul (.var 3) (.var 1))) (.var 2)))) .nil))
def b83d11 : TDef := ⟨"first_event", top83 22, ["world", "day", "p", "q", "c"], [false, false], b83first_event, []⟩
def b83has_rest : CSs := (.cons (.asg (.tp [3, 4, 5]) (.var 0)) (.cons (.ret (.or (.cmp .ge (.var 4) (.var 1)) (.cmp .lt (.bin .mod (.bin .sub (.bin .sub (.bin .add (.bin .mul (.var 4) (.var 2)) (.var 4)) (.cst (.int (1)))) (.var 5)) (.var 1)) (.var 4)))) .nil))
def b83d12 : TDef := ⟨"has_rest", top83 23, ["world", "number", "rest", "p", "q", "c"], [false, false, false], b83has_rest, []⟩
def b83common_rest : CSs := (.cons (.fr (.nm 3) (.rg1 (.var 2)) (.cons (.ife (.and (.call 12 (.cons (.var 0) (.cons (.var 2) (.cons (.var 3) .nil))) []) (.call 12 (.cons (.var 1) (.cons (.var 2) (.cons (.var 3) .nil))) [])) (.cons (.retv 3) .nil) .nil) .nil)) (.cons (.ret (.cst .non)) .nil))
def b83d13 : TDef := ⟨"common_rest", top83 24, ["world", "other", "number", "rest"], [false, false, false], b83common_rest, []⟩
def b83day_with : CSs := (.cons (.asg (.tp [3, 4, 5]) (.var 0)) (.cons (.ife (.cmp .ge (.var 4) (.var 3)) (.cons (.retv 2) .nil) .nil) (.cons (.asg (.nm 6) (.bin .mod (.bin .sub (.bin .sub (.bin .add (.bin .mul (.var 4) (.var 2)) (.var 4)) (.cst (.int (1)))) (.var 5)) (.var 1))) (.cons (.ret (.bin .mod (.bin .mul (.bin .add (.bin .add (.bin .sub (.var 6) (.var 4)) (.cst (.int (1)))) (.var 5)) (.call 9 (.cons (.var 4) (.cons (.var 3) .nil)) [])) (.var 3))) .nil))))
def b83d14 : TDef := ⟨"day_with", top83 25, ["world", "number", "rest", "p", "q", "c", "left"], [false, false, false], b83day_with, []⟩
def b83day_among_both : CSs := (.cons (.asl [4, 5] (.cons (.call 14 (.cons (.var 0) (.cons (.var 2) (.cons (.var 3) .nil))) []) (.cons (.call 14 (.cons (.var 1) (.cons (.var 2) (.cons (.var 3) .nil))) []) .nil))) (.cons (.asl [6, 7] (.cons (.bin .fdiv (.ixv 0 (.cst (.int (0)))) (.var 2)) (.cons (.bin .fdiv (.ixv 1 (.cst (.int (0)))) (.var 2)) .nil))) (.cons (.asg (.nm 8) (.bin .mod (.bin .mul (.bin .fdiv (.bin .sub (.var 5) (.var 4)) (.var 2)) (.call 9 (.cons (.var 6) (.cons (.var 7) .nil)) [])) (.var 7))) (.cons (.ret (.bin .add (.var 4) (.bin .mul (.var 8) (.ixv 0 (.cst (.int (0))))))) .nil))))
def b83d15 : TDef := ⟨"day_among_both", top83 26, ["world", "other", "number", "rest", "one", "two", "here", "there", "turns"], [false, false, false, false], b83day_among_both, []⟩
def b83days_with : CSs := (.cons (.asg (.tp [3, 4, 5]) (.var 0)) (.cons (.ife (.cmp .ge (.var 4) (.var 3)) (.cons (.ret (.bin .fdiv (.var 3) (.var 1))) .nil) .nil) (.cons (.ret (.bin .add (.bin .fdiv (.var 4) (.var 1)) (.ife (.cmp .lt (.bin .mod (.bin .sub (.bin .sub (.bin .add (.bin .mul (.var 4) (.var 2)) (.var 4)) (.cst (.int (1)))) (.var 5)) (.var 1)) (.bin .mod (.var 4) (.var 1))) (.cst (.int (1))) (.cst (.int (0)))))) .nil)))
def b83d16 : TDef := ⟨"days_with", top83 27, ["world", "number", "rest", "p", "q", "c"], [false, false, false], b83days_with, []⟩
def b83period_among : CSs := (.cons (.asg (.nm 2) (.call 4 (.cons (.ixv 0 (.cst (.int (0)))) (.cons (.ixv 1 (.cst (.int (0)))) .nil)) [])) (.cons (.asg (.nm 3) (.bi .sum (.cons (.lc (.bin .mul (.call 16 (.cons (.var 0) (.cons (.var 2) (.cons (.var 4) .nil))) []) (.call 16 (.cons (.var 1) (.cons (.var 2) (.cons (.var 4) .nil))) [])) (.nm 4) (.rg1 (.var 2)) (.cst (.bl true)) [4]) .nil))) (.cons (.ret (.tup (.cons (.bin .fdiv (.bin .mul (.ixv 0 (.cst (.int (0)))) (.ixv 1 (.cst (.int (0))))) (.var 2)) (.cons (.var 3) .nil)))) .nil)))
def b83d17 : TDef := ⟨"period_among", top83 28, ["world", "other", "number", "many", "rest"], [false, false], b83period_among, []⟩
def b83together_period : CSs := (.cons (.drop (.call 10 (.cons (.var 0) (.cons (.var 1) (.cons (.gc "MOST_PART" (.int (100000))) .nil))) [])) (.cons (.ret (.call 17 (.cons (.var 0) (.cons (.var 1) .nil)) [])) .nil))
def b83d18 : TDef := ⟨"together_period", top83 29, ["world", "other"], [false, false], b83together_period, []⟩
def b83both_paper : CSs := (.cons (.drop (.call 10 (.cons (.var 0) (.cons (.var 1) (.cons (.gc "MOST_PART" (.int (100000))) .nil))) [])) (.cons (.asg (.nm 2) (.call 4 (.cons (.ixv 0 (.cst (.int (0)))) (.cons (.ixv 1 (.cst (.int (0)))) .nil)) [])) (.cons (.asg (.nm 3) (.call 13 (.cons (.var 0) (.cons (.var 1) (.cons (.var 2) .nil))) [])) (.cons (.ife (.isN false (.var 3)) (.cons (.ret (.tup (.cons (.cst (.str "never")) (.cons (.var 2) .nil)))) .nil) .nil) (.cons (.asg (.nm 4) (.call 15 (.cons (.var 0) (.cons (.var 1) (.cons (.var 2) (.cons (.var 3) .nil)))) [])) (.cons (.ret (.tup (.cons (.cst (.str "both")) (.cons (.var 4) (.cons (.call 11 (.cons (.var 0) (.cons (.var 4) .nil)) []) (.cons (.call 11 (.cons (.var 1) (.cons (.var 4) .nil)) []) .nil)))))) .nil))))))
def b83d19 : TDef := ⟨"both_paper", top83 30, ["world", "other", "number", "rest", "day"], [false, false], b83both_paper, []⟩
def b83accepts_both : CSs := (.cons (.drop (.call 10 (.cons (.var 0) (.cons (.var 1) (.cons (.gc "MOST_PART" (.int (100000))) .nil))) [])) (.cons (.ife (.or (.not (.call 2 (.cons (.var 2) (.cons (.cst (.int (2))) (.cons (.cst (.int (4))) .nil))) [])) (.or (.not (.isi (.ixv 2 (.cst (.int (0)))) .str)) (.not (.bi .all (.cons (.lc (.call 0 (.cons (.var 4) .nil) []) (.nm 4) (.sq (.slv 2 (.cst (.int (1))) (.cst .non))) (.cst (.bl true)) [4]) .nil))))) (.cons (.ret (.cst (.bl false))) .nil) .nil) (.cons (.ife (.cmp .eq (.lenv 2) (.cst (.int (2)))) (.cons (.asg (.nm 3) (.ixv 2 (.cst (.int (1))))) (.cons (.ife (.or (.cmp .ne (.ixv 2 (.cst (.int (0)))) (.cst (.str "never"))) (.or (.cmp .lt (.var 3) (.cst (.int (1)))) (.or (.cmp .ne (.bin .mod (.ixv 0 (.cst (.int (0)))) (.var 3)) (.cst (.int (0)))) (.cmp .ne (.bin .mod (.ixv 1 (.cst (.int (0)))) (.var 3)) (.cst (.int (0))))))) (.cons (.ret (.cst (.bl false))) .nil) .nil) (.cons (.ret (.isN false (.call 13 (.cons (.var 0) (.cons (.var 1) (.cons (.var 3) .nil))) []))) .nil))) .nil) (.cons (.ife (.or (.cmp .ne (.lenv 2) (.cst (.int (4)))) (.cmp .ne (.ixv 2 (.cst (.int (0)))) (.cst (.str "both")))) (.cons (.ret (.cst (.bl false))) .nil) .nil) (.cons (.ret (.and (.cmp .eq (.call 8 (.cons (.var 0) (.cons (.ixv 2 (.cst (.int (2)))) .nil)) []) (.ixv 2 (.cst (.int (1))))) (.cmp .eq (.call 8 (.cons (.var 1) (.cons (.ixv 2 (.cst (.int (3)))) .nil)) []) (.ixv 2 (.cst (.int (1))))))) .nil)))))
def b83d20 : TDef := ⟨"accepts_both", top83 31, ["world", "other", "value", "number", "one"], [false, false, false], b83accepts_both, []⟩
def b83check_span : CSs := (.cons (.drop (.call 7 (.cons (.var 0) (.cons (.cst (.str "first")) .nil)) [])) (.cons (.drop (.call 3 (.cons (.var 1) (.cons (.bin .sub (.var 0) (.cst (.int (1)))) (.cons (.bin .sub (.bin .add (.var 0) (.gc "MOST_SPAN" (.int (10000)))) (.cst (.int (1)))) (.cons (.cst (.str "last")) .nil)))) [])) (.cons (.drop (.call 7 (.cons (.var 1) (.cons (.cst (.str "last")) .nil)) [])) .nil)))
def b83d21 : TDef := ⟨"check_span", top83 35, ["first", "last"], [false, false], b83check_span, []⟩
def b83events_on : CSs := (.cons (.asg (.tp [2, 3, 4]) (.var 0)) (.cons (.ret (.bin .sub (.bin .fdiv (.bin .sub (.bin .sub (.bin .add (.bin .mul (.var 3) (.var 1)) (.var 3)) (.cst (.int (1)))) (.var 4)) (.var 2)) (.bin .fdiv (.bin .sub (.bin .sub (.bin .mul (.var 3) (.var 1)) (.cst (.int (1)))) (.var 4)) (.var 2)))) .nil))
def b83d22 : TDef := ⟨"events_on", top83 36, ["world", "day", "p", "q", "c"], [false, false], b83events_on, []⟩
def b83both_in : CSs := (.cons (.drop (.call 10 (.cons (.var 0) (.cons (.var 1) (.cons (.gc "MOST_SMALL" (.int (300))) .nil))) [])) (.cons (.drop (.call 21 (.cons (.var 2) (.cons (.var 3) .nil)) [])) (.cons (.ret (.bi .tuple (.cons (.lc (.var 4) (.nm 4) (.rg2 (.var 2) (.bin .add (.var 3) (.cst (.int (1))))) (.and (.call 22 (.cons (.var 0) (.cons (.var 4) .nil)) []) (.call 22 (.cons (.var 1) (.cons (.var 4) .nil)) [])) [4]) .nil))) .nil)))
def b83d23 : TDef := ⟨"both_in", top83 37, ["world", "other", "first", "last", "day"], [false, false, false, false], b83both_in, []⟩
def b83next_both : CSs := (.cons (.drop (.call 10 (.cons (.var 0) (.cons (.var 1) (.cons (.gc "MOST_SMALL" (.int (300))) .nil))) [])) (.cons (.drop (.call 7 (.cons (.var 2) .nil) [(.str "day")])) (.cons (.ife (.isN false (.call 13 (.cons (.var 0) (.cons (.var 1) (.cons (.call 4 (.cons (.ixv 0 (.cst (.int (0)))) (.cons (.ixv 1 (.cst (.int (0)))) .nil)) []) .nil))) [])) (.cons (.ret (.cst .non)) .nil) .nil) (.cons (.whl (.cst (.bl true)) (.cons (.asg (.nm 3) (.call 8 (.cons (.var 0) (.cons (.call 11 (.cons (.var 0) (.cons (.var 2) .nil)) []) .nil)) [])) (.cons (.asg (.nm 4) (.call 8 (.cons (.var 1) (.cons (.call 11 (.cons (.var 1) (.cons (.bi .max (.cons (.var 2) (.cons (.var 3) .nil))) .nil)) []) .nil)) [])) (.cons (.ife (.and (.cmp .ge (.var 3) (.var 2)) (.cmp .eq (.var 3) (.var 4))) (.cons (.retv 3) .nil) .nil) (.cons (.asg (.nm 2) (.bi .max (.cons (.var 3) (.cons (.var 4) .nil)))) .nil))))) .nil))))
def b83d24 : TDef := ⟨"next_both", top83 38, ["world", "other", "day", "here", "there"], [false, false, false], b83next_both, []⟩
def b83merged : CSs := (.cons (.drop (.call 10 (.cons (.var 0) (.cons (.var 1) (.cons (.gc "MOST_SMALL" (.int (300))) .nil))) [])) (.cons (.drop (.call 21 (.cons (.var 2) (.cons (.var 3) .nil)) [])) (.cons (.asg (.nm 4) (.lc (.tup (.cons (.var 5) (.cons (.call 22 (.cons (.var 0) (.cons (.var 5) .nil)) []) (.cons (.call 22 (.cons (.var 1) (.cons (.var 5) .nil)) []) .nil)))) (.nm 5) (.rg2 (.var 2) (.bin .add (.var 3) (.cst (.int (1))))) (.cst (.bl true)) [5])) (.cons (.ret (.bi .tuple (.cons (.lc (.var 6) (.nm 6) (.sq (.var 4)) (.cmp .gt (.bin .add (.ixv 6 (.cst (.int (1)))) (.ixv 6 (.cst (.int (2))))) (.cst (.int (0)))) [6]) .nil))) .nil))))
def b83d25 : TDef := ⟨"merged", top83 39, ["world", "other", "first", "last", "found", "day", "one"], [false, false, false, false], b83merged, []⟩
def b83count_both : CSs := (.cons (.drop (.call 10 (.cons (.var 0) (.cons (.var 1) (.cons (.gc "MOST_SMALL" (.int (300))) .nil))) [])) (.cons (.drop (.call 7 (.cons (.var 2) (.cons (.cst (.str "first")) .nil)) [])) (.cons (.drop (.call 7 (.cons (.var 3) (.cons (.cst (.str "last")) .nil)) [])) (.cons (.ife (.cmp .lt (.var 3) (.var 2)) (.cons (.ret (.cst (.int (0)))) .nil) .nil) (.cons (.asg (.tp [4, 5]) (.call 17 (.cons (.var 0) (.cons (.var 1) .nil)) [])) (.cons (.asl [6, 7] (.cons (.bin .fdiv (.bin .add (.bin .sub (.var 3) (.var 2)) (.cst (.int (1)))) (.var 4)) (.cons (.bin .mod (.bin .add (.bin .sub (.var 3) (.var 2)) (.cst (.int (1)))) (.var 4)) .nil))) (.cons (.asg (.nm 8) (.lc (.var 9) (.nm 9) (.rg2 (.var 2) (.bin .add (.var 2) (.var 7))) (.and (.call 22 (.cons (.var 0) (.cons (.var 9) .nil)) []) (.call 22 (.cons (.var 1) (.cons (.var 9) .nil)) [])) [9])) (.cons (.ret (.bin .add (.bin .mul (.var 6) (.var 5)) (.lenv 8))) .nil))))))))
def b83d26 : TDef := ⟨"count_both", top83 40, ["world", "other", "first", "last", "period", "many", "turns", "rest", "found", "day"], [false, false, false, false], b83count_both, []⟩
def b83_law_stream : CSs := (.cons (.ret (.lst (.cons (.bi .list (.cons (.var 0) .nil)) (.cons (.cst (.int (0))) (.cons (.cst (.int (0))) .nil))))) .nil)
def b83d27 : TDef := ⟨"_law_stream", top83 42, ["script"], [false], b83_law_stream, []⟩
def b83_law_next : CSs := (.cons (.ife (.cmp .eq (.ixv 0 (.cst (.int (1)))) (.cst (.int (0)))) (.cons (.asg (.nm 2) (.ixv 0 (.cst (.int (2))))) (.cons (.asg (.nm 3) (.bin .add (.cst (.int (7))) (.var 2))) (.cons (.ife (.cmp .lt (.var 2) (.bi .len (.cons (.ixv 0 (.cst (.int (0)))) .nil))) (.cons (.asg (.nm 3) (.bin .mod (.bi .int (.cons (.bi .abs (.cons (.ix (.ixv 0 (.cst (.int (0)))) (.var 2)) .nil)) .nil)) (.bin .pow (.cst (.int (10))) (.cst (.int (60)))))) .nil) .nil) (.cons (.ife (.cmp .lt (.var 3) (.bin .pow (.cst (.int (10))) (.cst (.int (18))))) (.cons (.asg (.nm 3) (.bin .mod (.bi .int (.cons (.bin .add (.bin .add (.bin .mul (.var 3) (.cst (.int (48271)))) (.bin .mul (.var 2) (.cst (.int (69621))))) (.cst (.int (11)))) .nil)) (.cst (.int (2147483647))))) (.cons (.asg (.nm 3) (.bin .add (.bin .mul (.bin .mod (.bi .int (.cons (.bin .add (.bin .mul (.var 3) (.cst (.int (16807)))) (.cst (.int (13)))) .nil)) (.cst (.int (2147483647)))) (.cst (.int (65537)))) (.var 3))) .nil)) .nil) (.cons (.setix 0 (.cst (.int (1))) (.var 3)) (.cons (.setix 0 (.cst (.int (2))) (.bin .add (.var 2) (.cst (.int (1))))) .nil)))))) .nil) (.cons (.asg (.nm 4) (.bin .mod (.bi .int (.cons (.ixv 0 (.cst (.int (1)))) .nil)) (.var 1))) (.cons (.setix 0 (.cst (.int (1))) (.bin .fdiv (.ixv 0 (.cst (.int (1)))) (.var 1))) (.cons (.retv 4) .nil))))
def b83d28 : TDef := ⟨"_law_next", top83 43, ["stream", "many", "k", "cell", "digit"], [true, false], b83_law_next, []⟩
def b83_law_pick : CSs := (.cons (.ret (.ixv 1 (.call 28 (.cons (.io 0) (.cons (.lenv 1) .nil)) []))) .nil)
def b83d29 : TDef := ⟨"_law_pick", top83 44, ["stream", "rows"], [true, false], b83_law_pick, []⟩
def b83_law_plain : CSs := (.cons (.asg (.nm 1) (.lst (.cons (.var 0) .nil))) (.cons (.fr (.nm 2) (.rg1 (.bin .pow (.cst (.int (10))) (.cst (.int (6))))) (.cons (.ife (.cmp .eq (.lenv 1) (.cst (.int (0)))) (.cons (.ret (.cst (.bl true))) .nil) .nil) (.cons (.asg (.nm 3) (.pop 1)) (.cons (.ife (.isi (.var 3) .tuple) (.cons (.ext 1 (.bi .list (.cons (.var 3) .nil))) .nil) (.cons (.ife (.and (.isN true (.var 3)) (.and (.not (.isi (.var 3) .str)) (.not (.isi (.var 3) .int)))) (.cons (.ret (.cst (.bl false))) .nil) .nil) .nil)) .nil)))) (.cons (.ret (.cst (.bl false))) .nil)))
def b83d30 : TDef := ⟨"_law_plain", top83 45, ["value", "left", "turn", "one"], [false], b83_law_plain, []⟩
def b83_law_equal : CSs := (.cons (.ret (.and (.call 30 (.cons (.var 0) .nil) []) (.cmp .eq (.bi .repr (.cons (.var 0) .nil)) (.bi .repr (.cons (.var 1) .nil))))) .nil)
def b83d31 : TDef := ⟨"_law_equal", top83 46, ["value", "due"], [false, false], b83_law_equal, []⟩
def b83_law_whole : CSs := (.cons (.ret (.and (.isi (.var 0) .int) (.not (.isi (.var 0) .bool)))) .nil)
def b83d32 : TDef := ⟨"_law_whole", top83 47, ["value"], [false], b83_law_whole, []⟩
def b83_law_divisor : CSs := (.cons (.fr (.nm 2) (.rg1 (.cst (.int (1000)))) (.cons (.ife (.cmp .eq (.var 1) (.cst (.int (0)))) (.cons (.ret (.bi .abs (.cons (.var 0) .nil))) .nil) .nil) (.cons (.asl [0, 1] (.cons (.var 1) (.cons (.bin .mod (.bi .int (.cons (.var 0) .nil)) (.var 1)) .nil))) .nil))) (.cons (.ret (.cst (.int (1)))) .nil))
def b83d33 : TDef := ⟨"_law_divisor", top83 48, ["one", "other", "turn"], [false, false], b83_law_divisor, []⟩
def b83_law_lowest : CSs := (.cons (.asg (.nm 2) (.call 33 (.cons (.var 0) (.cons (.var 1) .nil)) [])) (.cons (.ret (.tup (.cons (.bin .fdiv (.var 0) (.var 2)) (.cons (.bin .fdiv (.var 1) (.var 2)) .nil)))) .nil))
def b83d34 : TDef := ⟨"_law_lowest", top83 49, ["top", "bottom", "common"], [false, false], b83_law_lowest, []⟩
def b83_law_pair : CSs := (.cons (.asg (.nm 2) (.lst .nil)) (.cons (.fr (.nm 3) (.rg1 (.cst (.int (2)))) (.cons (.asg (.tp [4, 5]) (.call 34 (.cons (.bin .add (.cst (.int (1))) (.call 28 (.cons (.io 0) (.cons (.var 1) .nil)) [])) (.cons (.bin .add (.cst (.int (1))) (.call 28 (.cons (.io 0) (.cons (.var 1) .nil)) [])) .nil)) [])) (.cons (.app 2 (.tup (.cons (.var 4) (.cons (.var 5) (.cons (.bin .sub (.call 28 (.cons (.io 0) (.cons (.bin .mul (.cst (.int (2))) (.var 1)) .nil)) []) (.var 1)) .nil))))) .nil))) (.cons (.retv 2) .nil)))
def b83d35 : TDef := ⟨"_law_pair", top83 50, ["stream", "most", "found", "turn", "p", "q"], [true, false], b83_law_pair, []⟩
def b83_law_run : CSs := (.cons (.try_ (.cons (.ife (.cmp .eq (.lenv 1) (.cst (.int (2)))) (.cons (.ret (.callv 0 (.cons (.ixv 1 (.cst (.int (0)))) (.cons (.ixv 1 (.cst (.int (1)))) .nil)))) .nil) .nil) (.cons (.ret (.ife (.cmp .eq (.lenv 1) (.cst (.int (3)))) (.callv 0 (.cons (.ixv 1 (.cst (.int (0)))) (.cons (.ixv 1 (.cst (.int (1)))) (.cons (.ixv 1 (.cst (.int (2)))) .nil)))) (.callv 0 (.cons (.ixv 1 (.cst (.int (0)))) (.cons (.ixv 1 (.cst (.int (1)))) (.cons (.ixv 1 (.cst (.int (2)))) (.cons (.ixv 1 (.cst (.int (3)))) .nil))))))) .nil))) .nil)
def b83d36 : TDef := ⟨"_law_run", top83 51, ["function", "values"], [false, false], b83_law_run, []⟩
def b83_law_has : CSs := (.cons (.asg (.tp [2, 3, 4]) (.var 0)) (.cons (.ret (.cmp .lt (.bin .mod (.bi .int (.cons (.bin .sub (.bin .sub (.bin .add (.bin .mul (.var 3) (.var 1)) (.var 3)) (.cst (.int (1)))) (.var 4)) .nil)) (.var 2)) (.var 3))) .nil))
def b83d37 : TDef := ⟨"_law_has", top83 52, ["world", "day", "p", "q", "c"], [false, false], b83_law_has, []⟩
def b83_law_apart : CSs := (.cons (.asl [2, 3] (.cons (.bin .add (.cst (.int (2))) (.call 28 (.cons (.io 0) (.cons (.bin .fdiv (.var 1) (.cst (.int (3)))) .nil)) [])) (.cons (.call 28 (.cons (.io 0) (.cons (.bin .pow (.cst (.int (10))) (.cst (.int (6)))) .nil)) []) .nil))) (.cons (.asg (.nm 4) (.bin .mul (.var 2) (.bin .add (.cst (.int (1))) (.call 28 (.cons (.io 0) (.cons (.bin .fdiv (.var 1) (.var 2)) .nil)) [])))) (.cons (.asg (.nm 5) (.bin .mul (.var 2) (.bin .add (.cst (.int (1))) (.call 28 (.cons (.io 0) (.cons (.bin .fdiv (.var 1) (.var 2)) .nil)) [])))) (.cons (.asg (.nm 6) (.ife (.cmp .eq (.call 28 (.cons (.io 0) (.cons (.cst (.int (2))) .nil)) []) (.cst (.int (0)))) (.bin .add (.var 3) (.bin .mul (.var 2) (.call 28 (.cons (.io 0) (.cons (.cst (.int (9))) .nil)) []))) (.call 28 (.cons (.io 0) (.cons (.bin .pow (.cst (.int (10))) (.cst (.int (6)))) .nil)) []))) (.cons (.ret (.lst (.cons (.tup (.cons (.var 4) (.cons (.cst (.int (1))) (.cons (.var 3) .nil)))) (.cons (.tup (.cons (.var 5) (.cons (.cst (.int (1))) (.cons (.var 6) .nil)))) .nil)))) .nil)))))
def b83d38 : TDef := ⟨"_law_apart", top83 53, ["stream", "most", "number", "start", "one", "other", "end"], [true, false], b83_law_apart, []⟩
def b83_law_many : CSs := (.cons (.asg (.tp [2, 3, 4]) (.var 0)) (.cons (.ret (.bin .sub (.bin .fdiv (.bin .sub (.bin .sub (.bin .add (.bin .mul (.var 3) (.var 1)) (.var 3)) (.cst (.int (1)))) (.var 4)) (.var 2)) (.bin .fdiv (.bin .sub (.bin .sub (.bin .mul (.var 3) (.var 1)) (.var 4)) (.cst (.int (1)))) (.var 2)))) .nil))
def b83d39 : TDef := ⟨"_law_many", top83 54, ["world", "day", "p", "q", "c"], [false, false], b83_law_many, []⟩
def b83_law_rests : CSs := (.cons (.asg (.nm 2) (.bin .mul (.lst (.cons (.cst (.int (0))) .nil)) (.var 1))) (.cons (.fr (.nm 3) (.rg1 (.ixv 0 (.cst (.int (0))))) (.cons (.ife (.call 37 (.cons (.var 0) (.cons (.var 3) .nil)) []) (.cons (.asg (.nm 4) (.bin .mod (.bi .int (.cons (.var 3) .nil)) (.var 1))) (.cons (.setix 2 (.var 4) (.bin .add (.ixv 2 (.var 4)) (.cst (.int (1))))) .nil)) .nil) .nil)) (.cons (.retv 2) .nil)))
def b83d40 : TDef := ⟨"_law_rests", top83 55, ["world", "number", "found", "day", "rest"], [false, false], b83_law_rests, []⟩
def b83_law_is_one : CSs := (.cons (.ife (.or (.not (.call 30 (.cons (.var 2) .nil) [])) (.or (.not (.isi (.var 2) .tuple)) (.or (.cmp .nin (.lenv 2) (.tup (.cons (.cst (.int (2))) (.cons (.cst (.int (4))) .nil)))) (.cmp .ne (.lc (.var 7) (.nm 7) (.sq (.slv 2 (.cst (.int (1))) (.cst .non))) (.not (.call 32 (.cons (.var 7) .nil) [])) [7]) (.lst .nil))))) (.cons (.ret (.cst (.bl false))) .nil) .nil) (.cons (.ife (.cmp .eq (.lenv 2) (.cst (.int (4)))) (.cons (.asg (.nm 3) (.lc (.bin .fdiv (.bin .add (.bin .mul (.ixv 8 (.cst (.int (0)))) (.var 9)) (.ixv 8 (.cst (.int (2))))) (.ixv 8 (.cst (.int (1))))) (.tp [8, 9]) (.sq (.tup (.cons (.tup (.cons (.var 0) (.cons (.ixv 2 (.cst (.int (2)))) .nil))) (.cons (.tup (.cons (.var 1) (.cons (.ixv 2 (.cst (.int (3)))) .nil))) .nil)))) (.cst (.bl true)) [8, 9])) (.cons (.ret (.and (.cmp .eq (.ixv 2 (.cst (.int (0)))) (.cst (.str "both"))) (.cmp .eq (.var 3) (.lst (.cons (.ixv 2 (.cst (.int (1)))) (.cons (.ixv 2 (.cst (.int (1)))) .nil)))))) .nil)) .nil) (.cons (.asg (.nm 4) (.ixv 2 (.cst (.int (1))))) (.cons (.ife (.or (.cmp .ne (.ixv 2 (.cst (.int (0)))) (.cst (.str "never"))) (.or (.cmp .lt (.var 4) (.cst (.int (1)))) (.or (.cmp .ne (.bin .mod (.bi .int (.cons (.ixv 0 (.cst (.int (0)))) .nil)) (.var 4)) (.cst (.int (0)))) (.cmp .ne (.bin .mod (.bi .int (.cons (.ixv 1 (.cst (.int (0)))) .nil)) (.var 4)) (.cst (.int (0))))))) (.cons (.ret (.cst (.bl false))) .nil) .nil) (.cons (.asl [5, 6] (.cons (.call 40 (.cons (.var 0) (.cons (.var 4) .nil)) []) (.cons (.call 40 (.cons (.var 1) (.cons (.var 4) .nil)) []) .nil))) (.cons (.ret (.cmp .eq (.lc (.var 10) (.nm 10) (.rg1 (.var 4)) (.and (.cmp .gt (.ixv 5 (.var 10)) (.cst (.int (0)))) (.cmp .gt (.ixv 6 (.var 10)) (.cst (.int (0))))) [10]) (.lst .nil))) .nil))))))
def b83d41 : TDef := ⟨"_law_is_one", top83 56, ["one", "other", "value", "days", "number", "ones", "others", "part", "world", "event", "rest"], [false, false, false], b83_law_is_one, []⟩
def b83_law_period_holds : CSs := (.cons (.asg (.nm 2) (.call 33 (.cons (.ixv 0 (.cst (.int (0)))) (.cons (.ixv 1 (.cst (.int (0)))) .nil)) [])) (.cons (.asl [3, 4] (.cons (.call 40 (.cons (.var 0) (.cons (.var 2) .nil)) []) (.cons (.call 40 (.cons (.var 1) (.cons (.var 2) .nil)) []) .nil))) (.cons (.asg (.nm 5) (.bi .sum (.cons (.lc (.bin .mul (.ixv 3 (.var 9)) (.ixv 4 (.var 9))) (.nm 9) (.rg1 (.var 2)) (.cst (.bl true)) [9]) .nil))) (.cons (.ife (.and (.cmp .eq (.var 2) (.cst (.int (1)))) (.cmp .ne (.var 5) (.bin .mul (.bi .min (.cons (.ixv 0 (.cst (.int (0)))) (.cons (.ixv 0 (.cst (.int (1)))) .nil))) (.bi .min (.cons (.ixv 1 (.cst (.int (0)))) (.cons (.ixv 1 (.cst (.int (1)))) .nil)))))) (.cons (.ret (.cst (.bl false))) .nil) .nil) (.cons (.ife (.and (.cmp .eq (.var 5) (.cst (.int (0)))) (.cmp .gt (.bin .add (.ixv 0 (.cst (.int (1)))) (.ixv 1 (.cst (.int (1))))) (.var 2))) (.cons (.ret (.cst (.bl false))) .nil) .nil) (.cons (.fr (.tp [6, 7]) (.sq (.tup (.cons (.tup (.cons (.var 0) (.cons (.var 3) .nil))) (.cons (.tup (.cons (.var 1) (.cons (.var 4) .nil))) .nil)))) (.cons (.asg (.nm 8) (.bin .fdiv (.bi .min (.cons (.ixv 6 (.cst (.int (0)))) (.cons (.ixv 6 (.cst (.int (1)))) .nil))) (.var 2))) (.cons (.ife (.cmp .ne (.lc (.var 9) (.nm 9) (.sq (.var 7)) (.and (.cmp .ne (.var 9) (.var 8)) (.cmp .ne (.var 9) (.bin .add (.var 8) (.cst (.int (1)))))) [9]) (.lst .nil)) (.cons (.ret (.cst (.bl false))) .nil) .nil) .nil))) (.cons (.ret (.call 31 (.cons (.call 36 (.cons (.gf "together_period" 18) (.cons (.lst (.cons (.var 0) (.cons (.var 1) .nil))) .nil)) []) (.cons (.tup (.cons (.bin .fdiv (.bin .mul (.ixv 0 (.cst (.int (0)))) (.ixv 1 (.cst (.int (0))))) (.var 2)) (.cons (.var 5) .nil))) .nil)) [])) .nil)))))))
def b83d42 : TDef := ⟨"_law_period_holds", top83 57, ["one", "other", "common", "ones", "others", "many", "world", "rests", "least", "rest"], [false, false], b83_law_period_holds, []⟩
def b83_law_paper_holds : CSs := (.cons (.asg (.nm 4) (.call 33 (.cons (.ixv 1 (.cst (.int (0)))) (.cons (.ixv 2 (.cst (.int (0)))) .nil)) [])) (.cons (.asg (.nm 5) (.call 36 (.cons (.gf "both_paper" 19) (.cons (.lst (.cons (.var 1) (.cons (.var 2) .nil))) .nil)) [])) (.cons (.ife (.not (.call 41 (.cons (.var 1) (.cons (.var 2) (.cons (.var 5) .nil))) [])) (.cons (.ret (.cst (.bl false))) .nil) .nil) (.cons (.asg (.nm 6) (.lst (.cons (.var 5) (.cons (.tup (.cons (.cst (.str "never")) (.cons (.var 4) .nil))) (.cons (.tup (.cons (.cst (.str "never")) (.cons (.cst (.int (1))) .nil))) (.cons (.tup (.cons (.cst (.str "never")) (.cons (.call 29 (.cons (.io 0) (.cons (.lc (.var 9) (.nm 9) (.rg2 (.cst (.int (1))) (.bin .add (.var 4) (.cst (.int (1))))) (.cmp .eq (.bin .mod (.bi .int (.cons (.var 4) .nil)) (.var 9)) (.cst (.int (0)))) [9]) .nil)) []) .nil))) (.cons (.bin .add (.tup (.cons (.cst (.str "both")) .nil)) (.slv 5 (.cst (.int (1))) (.cst .non))) .nil))))))) (.cons (.fr (.nm 7) (.sq (.var 6)) (.cons (.fr (.nm 8) (.sq (.tup (.cons (.var 2) (.cons (.var 3) .nil)))) (.cons (.ife (.not (.call 31 (.cons (.call 36 (.cons (.gf "accepts_both" 20) (.cons (.lst (.cons (.var 1) (.cons (.var 8) (.cons (.var 7) .nil)))) .nil)) []) (.cons (.call 41 (.cons (.var 1) (.cons (.var 8) (.cons (.var 7) .nil))) []) .nil)) [])) (.cons (.ret (.cst (.bl false))) .nil) .nil) .nil)) .nil)) (.cons (.ret (.cst (.bl true))) .nil))))))
def b83d43 : TDef := ⟨"_law_paper_holds", top83 58, ["stream", "one", "other", "another", "common", "told", "values", "value", "second", "at"], [true, false, false, false], b83_law_paper_holds, []⟩
def b83_law_far_days_hold : CSs := (.cons (.asg (.nm 4) (.bin .sub (.bin .add (.var 3) (.call 29 (.cons (.io 0) (.cons (.lst (.cons (.cst (.int (100))) (.cons (.cst (.int (1000))) (.cons (.bin .pow (.cst (.int (10))) (.cst (.int (4)))) .nil)))) .nil)) [])) (.cst (.int (1))))) (.cons (.asg (.nm 5) (.lc (.tup (.cons (.var 6) (.cons (.call 39 (.cons (.var 1) (.cons (.var 6) .nil)) []) (.cons (.call 39 (.cons (.var 2) (.cons (.var 6) .nil)) []) .nil)))) (.nm 6) (.rg2 (.var 3) (.bin .add (.var 4) (.cst (.int (1))))) (.cst (.bl true)) [6])) (.cons (.ife (.not (.call 31 (.cons (.call 36 (.cons (.gf "both_in" 23) (.cons (.lst (.cons (.var 1) (.cons (.var 2) (.cons (.var 3) (.cons (.var 4) .nil))))) .nil)) []) (.cons (.bi .tuple (.cons (.lc (.ixv 7 (.cst (.int (0)))) (.nm 7) (.sq (.var 5)) (.and (.cmp .gt (.ixv 7 (.cst (.int (1)))) (.cst (.int (0)))) (.cmp .gt (.ixv 7 (.cst (.int (2)))) (.cst (.int (0))))) [7]) .nil)) .nil)) [])) (.cons (.ret (.cst (.bl false))) .nil) .nil) (.cons (.ret (.call 31 (.cons (.call 36 (.cons (.gf "merged" 25) (.cons (.lst (.cons (.var 1) (.cons (.var 2) (.cons (.var 3) (.cons (.var 4) .nil))))) .nil)) []) (.cons (.bi .tuple (.cons (.lc (.var 7) (.nm 7) (.sq (.var 5)) (.cmp .gt (.bin .add (.ixv 7 (.cst (.int (1)))) (.ixv 7 (.cst (.int (2))))) (.cst (.int (0)))) [7]) .nil)) .nil)) [])) .nil))))
def b83d44 : TDef := ⟨"_law_far_days_hold", top83 59, ["stream", "one", "other", "first", "last", "rows", "day", "row"], [true, false, false, false], b83_law_far_days_hold, []⟩
def b83law : CSs := (.cons (.asg (.nm 1) (.call 27 (.cons (.var 0) .nil) [])) (.cons (.asg (.tp [2, 3]) (.ife (.cmp .eq (.call 28 (.cons (.io 1) (.cons (.cst (.int (2))) .nil)) []) (.cst (.int (0)))) (.call 35 (.cons (.io 1) (.cons (.call 29 (.cons (.io 1) (.cons (.lst (.cons (.cst (.int (1000))) (.cons (.bin .pow (.cst (.int (10))) (.cst (.int (5)))) .nil))) .nil)) []) .nil)) []) (.call 38 (.cons (.io 1) (.cons (.bin .pow (.cst (.int (10))) (.cst (.int (5)))) .nil)) []))) (.cons (.ife (.or (.not (.call 42 (.cons (.var 2) (.cons (.var 3) .nil)) [])) (.not (.call 43 (.cons (.io 1) (.cons (.var 2) (.cons (.var 3) (.cons (.ix (.call 35 (.cons (.io 1) (.cons (.bin .pow (.cst (.int (10))) (.cst (.int (5)))) .nil)) []) (.cst (.int (0)))) .nil)))) []))) (.cons (.ret (.cst (.bl false))) .nil) .nil) (.cons (.fr (.nm 4) (.rg1 (.cst (.int (2)))) (.cons (.asg (.tp [2, 3]) (.ife (.cmp .gt (.call 28 (.cons (.io 1) (.cons (.cst (.int (3))) .nil)) []) (.cst (.int (0)))) (.call 35 (.cons (.io 1) (.cons (.call 29 (.cons (.io 1) (.cons (.lst (.cons (.cst (.int (40))) (.cons (.cst (.int (300))) .nil))) .nil)) []) .nil)) []) (.call 38 (.cons (.io 1) (.cons (.cst (.int (300))) .nil)) []))) (.cons (.ife (.or (.not (.call 42 (.cons (.var 2) (.cons (.var 3) .nil)) [])) (.not (.call 43 (.cons (.io 1) (.cons (.var 2) (.cons (.var 3) (.cons (.ix (.call 35 (.cons (.io 1) (.cons (.cst (.int (300))) .nil)) []) (.cst (.int (0)))) .nil)))) []))) (.cons (.ret (.cst (.bl false))) .nil) .nil) (.cons (.asg (.nm 5) (.call 36 (.cons (.gf "together_period" 18) (.cons (.lst (.cons (.var 2) (.cons (.var 3) .nil))) .nil)) [])) (.cons (.asg (.nm 6) (.call 29 (.cons (.io 1) (.cons (.lst (.cons (.cst (.int (0))) (.cons (.call 28 (.cons (.io 1) (.cons (.bin .pow (.cst (.int (10))) (.cst (.int (6)))) .nil)) []) (.cons (.bin .sub (.cst (.int (1))) (.bin .pow (.cst (.int (10))) (.cst (.int (15))))) (.cons (.bin .sub (.bin .pow (.cst (.int (10))) (.cst (.int (15)))) (.bin .pow (.cst (.int (10))) (.cst (.int (6))))) .nil))))) .nil)) [])) (.cons (.asg (.nm 7) (.call 36 (.cons (.gf "next_both" 24) (.cons (.lst (.cons (.var 2) (.cons (.var 3) (.cons (.var 6) .nil)))) .nil)) [])) (.cons (.ife (.or (.cmp .ne (.isN false (.var 7)) (.cmp .eq (.ixv 5 (.cst (.int (1)))) (.cst (.int (0))))) (.not (.call 31 (.cons (.call 36 (.cons (.gf "next_both" 24) (.cons (.lst (.cons (.var 3) (.cons (.var 2) (.cons (.var 6) .nil)))) .nil)) []) (.cons (.var 7) .nil)) []))) (.cons (.ret (.cst (.bl false))) .nil) .nil) (.cons (.ife (.isN true (.var 7)) (.cons (.ife (.or (.not (.call 32 (.cons (.var 7) .nil) [])) (.or (.cmp .lt (.var 7) (.var 6)) (.or (.not (.call 37 (.cons (.var 2) (.cons (.var 7) .nil)) [])) (.not (.call 37 (.cons (.var 3) (.cons (.var 7) .nil)) []))))) (.cons (.ret (.cst (.bl false))) .nil) .nil) (.cons (.ife (.and (.cmp .gt (.var 7) (.var 6)) (.cmp .ne (.call 36 (.cons (.gf "count_both" 26) (.cons (.lst (.cons (.var 2) (.cons (.var 3) (.cons (.var 6) (.cons (.bin .sub (.var 7) (.cst (.int (1)))) .nil))))) .nil)) []) (.cst (.int (0))))) (.cons (.ret (.cst (.bl false))) .nil) .nil) .nil)) .nil) (.cons (.asg (.nm 8) (.call 28 (.cons (.io 1) (.cons (.cst (.int (5))) .nil)) [])) (.cons (.ife (.not (.call 31 (.cons (.call 36 (.cons (.gf "count_both" 26) (.cons (.lst (.cons (.var 2) (.cons (.var 3) (.cons (.var 6) (.cons (.bin .sub (.bin .add (.var 6) (.bin .mul (.var 8) (.ixv 5 (.cst (.int (0)))))) (.cst (.int (1)))) .nil))))) .nil)) []) (.cons (.bin .mul (.var 8) (.ixv 5 (.cst (.int (1))))) .nil)) [])) (.cons (.ret (.cst (.bl false))) .nil) .nil) (.cons (.asl [9, 10] (.cons (.bin .add (.var 6) (.call 28 (.cons (.io 1) (.cons (.cst (.int (2000))) .nil)) [])) (.cons (.bin .add (.bin .add (.var 6) (.cst (.int (2000)))) (.call 28 (.cons (.io 1) (.cons (.cst (.int (500))) .nil)) [])) .nil))) (.cons (.asg (.nm 11) (.bi .len (.cons (.lc (.var 15) (.nm 15) (.rg2 (.var 6) (.bin .add (.var 10) (.cst (.int (1))))) (.and (.call 37 (.cons (.var 2) (.cons (.var 15) .nil)) []) (.call 37 (.cons (.var 3) (.cons (.var 15) .nil)) [])) [15]) .nil))) (.cons (.asg (.nm 12) (.tup (.cons (.call 36 (.cons (.gf "count_both" 26) (.cons (.lst (.cons (.var 2) (.cons (.var 3) (.cons (.var 6) (.cons (.var 9) .nil))))) .nil)) []) (.cons (.call 36 (.cons (.gf "count_both" 26) (.cons (.lst (.cons (.var 2) (.cons (.var 3) (.cons (.bin .add (.var 9) (.cst (.int (1)))) (.cons (.var 10) .nil))))) .nil)) []) .nil)))) (.cons (.ife (.or (.not (.call 31 (.cons (.call 36 (.cons (.gf "count_both" 26) (.cons (.lst (.cons (.var 2) (.cons (.var 3) (.cons (.var 6) (.cons (.var 10) .nil))))) .nil)) []) (.cons (.var 11) .nil)) [])) (.cmp .ne (.bin .add (.ixv 12 (.cst (.int (0)))) (.ixv 12 (.cst (.int (1))))) (.var 11))) (.cons (.ret (.cst (.bl false))) .nil) .nil) (.cons (.asg (.nm 13) (.lc (.tup (.cons (.var 16) (.cons (.var 17) (.cons (.bin .add (.var 18) (.bin .mul (.cst (.int (7))) (.var 17))) .nil)))) (.tp [16, 17, 18]) (.sq (.tup (.cons (.var 2) (.cons (.var 3) .nil)))) (.cst (.bl true)) [16, 17, 18])) (.cons (.asg (.nm 14) (.bi .len (.cons (.lc (.var 15) (.nm 15) (.rg2 (.bin .sub (.var 6) (.cst (.int (7)))) (.bin .sub (.var 10) (.cst (.int (13))))) (.and (.call 37 (.cons (.var 2) (.cons (.var 15) .nil)) []) (.call 37 (.cons (.var 3) (.cons (.var 15) .nil)) [])) [15]) .nil))) (.cons (.ife (.or (.not (.call 31 (.cons (.call 36 (.cons (.gf "count_both" 26) (.cons (.bin .add (.var 13) (.lst (.cons (.var 6) (.cons (.bin .sub (.var 10) (.cst (.int (7)))) .nil)))) .nil)) []) (.cons (.var 14) .nil)) [])) (.not (.call 31 (.cons (.call 36 (.cons (.gf "count_both" 26) (.cons (.lst (.cons (.var 2) (.cons (.var 3) (.cons (.var 10) (.cons (.bin .sub (.var 6) (.cst (.int (1)))) .nil))))) .nil)) []) (.cons (.cst (.int (0))) .nil)) []))) (.cons (.ret (.cst (.bl false))) .nil) .nil) (.cons (.ife (.and (.cmp .eq (.var 4) (.cst (.int (0)))) (.not (.call 44 (.cons (.io 1) (.cons (.var 2) (.cons (.var 3) (.cons (.var 6) .nil)))) []))) (.cons (.ret (.cst (.bl false))) .nil) .nil) .nil)))))))))))))))))) (.cons (.ret (.cst (.bl true))) .nil)))))
def b83d45 : TDef := ⟨"law", top83 60, ["script", "stream", "one", "other", "turn", "told", "first", "found", "turns", "middle", "last", "whole", "parts", "moved", "due", "at", "p", "q", "c"], [false], b83law, []⟩
def b83_law_pick_io : CSs := (.cons (.ret (.ixv 1 (.call 28 (.cons (.io 0) (.cons (.lenv 1) .nil)) []))) .nil)
def b83d46 : TDef := ⟨"_law_pick", top83 44, ["stream", "rows"], [true, true], b83_law_pick_io, []⟩
def b83defs : List TDef := [b83d0, b83d1, b83d2, b83d3, b83d4, b83d5, b83d6, b83d7, b83d8, b83d9, b83d10, b83d11, b83d12, b83d13, b83d14, b83d15, b83d16, b83d17, b83d18, b83d19, b83d20, b83d21, b83d22, b83d23, b83d24, b83d25, b83d26, b83d27, b83d28, b83d29, b83d30, b83d31, b83d32, b83d33, b83d34, b83d35, b83d36, b83d37, b83d38, b83d39, b83d40, b83d41, b83d42, b83d43, b83d44, b83d45, b83d46]
def b83cs : List (Str × Int) := [("MOST_NUMBER", 1000000000000000000000000000000000000000000000000000000000000), ("MOST_PART", 100000), ("MOST_DAY", 1000000000000000), ("MOST_SMALL", 300), ("MOST_SPAN", 10000)]
def b83T : Tab := TOf b83defs b83cs
theorem b83ok0 : b83d0.Ok b83T := ⟨by kernel_rfl, ⟨rfl, rfl, rfl, by decide +kernel, rfl, by decide +kernel, by decide +kernel⟩, rfl, (fun _ _ _ _ _ _ _ us hl => match us, hl with | [_], _ => rfl), fun _ _ h => (h rfl).elim, rfl⟩
theorem b83ok1 : b83d1.Ok b83T := ⟨by kernel_rfl, ⟨rfl, rfl, rfl, by decide +kernel, rfl, by decide +kernel, by decide +kernel⟩, rfl, (fun _ _ _ _ _ _ _ us hl => match us, hl with | [_, _, _], _ => rfl), fun _ _ h => (h rfl).elim, rfl⟩
theorem b83ok2 : b83d2.Ok b83T := ⟨by kernel_rfl, ⟨rfl, rfl, rfl, by decide +kernel, rfl, by decide +kernel, by decide +kernel⟩, rfl, (fun _ _ _ _ _ _ _ us hl => match us, hl with | [_, _, _], _ => rfl), fun _ _ h => (h rfl).elim, rfl⟩
theorem b83ok3 : b83d3.Ok b83T := ⟨by kernel_rfl, ⟨rfl, rfl, rfl, by decide +kernel, rfl, by decide +kernel, by decide +kernel⟩, rfl, (fun _ _ _ _ _ _ _ us hl => match us, hl with | [_, _, _, _], _ => rfl), fun _ _ h => (h rfl).elim, rfl⟩
theorem b83ok4 : b83d4.Ok b83T := ⟨by kernel_rfl, ⟨rfl, rfl, rfl, by decide +kernel, rfl, by decide +kernel, by decide +kernel⟩, rfl, (fun _ _ _ _ _ _ _ us hl => match us, hl with | [_, _], _ => rfl), fun _ _ h => (h rfl).elim, rfl⟩
theorem b83ok5 : b83d5.Ok b83T := ⟨by kernel_rfl, ⟨rfl, rfl, rfl, by decide +kernel, rfl, by decide +kernel, by decide +kernel⟩, rfl, (fun _ _ _ _ _ _ _ us hl => match us, hl with | [_], _ => rfl), fun _ _ h => (h rfl).elim, rfl⟩
theorem b83ok6 : b83d6.Ok b83T := ⟨by kernel_rfl, ⟨rfl, rfl, rfl, by decide +kernel, rfl, by decide +kernel, by decide +kernel⟩, rfl, (fun _ _ _ _ _ _ _ us hl => match us, hl with | [_], _ => rfl), fun _ _ h => (h rfl).elim, rfl⟩
theorem b83ok7 : b83d7.Ok b83T := ⟨by kernel_rfl, ⟨rfl, rfl, rfl, by decide +kernel, rfl, by decide +kernel, by decide +kernel⟩, rfl, (fun h => nomatch h), (fun j hj _ _ _ _ _ _ _ _ us its hu hi => match j, hj, us, its, hu, hi with | 0, _, [_], [_], _, _ => ⟨_, rfl, rfl⟩ | 1, _, [_, _], [_], _, _ => ⟨_, rfl, rfl⟩), rfl⟩
theorem b83ok8 : b83d8.Ok b83T := ⟨by kernel_rfl, ⟨rfl, rfl, rfl, by decide +kernel, rfl, by decide +kernel, by decide +kernel⟩, rfl, (fun _ _ _ _ _ _ _ us hl => match us, hl with | [_, _], _ => rfl), fun _ _ h => (h rfl).elim, rfl⟩
theorem b83ok9 : b83d9.Ok b83T := ⟨by kernel_rfl, ⟨rfl, rfl, rfl, by decide +kernel, rfl, by decide +kernel, by decide +kernel⟩, rfl, (fun _ _ _ _ _ _ _ us hl => match us, hl with | [_, _], _ => rfl), fun _ _ h => (h rfl).elim, rfl⟩
theorem b83ok10 : b83d10.Ok b83T := ⟨by kernel_rfl, ⟨rfl, rfl, rfl, by decide +kernel, rfl, by decide +kernel, by decide +kernel⟩, rfl, (fun _ _ _ _ _ _ _ us hl => match us, hl with | [_, _, _], _ => rfl), fun _ _ h => (h rfl).elim, rfl⟩
theorem b83ok11 : b83d11.Ok b83T := ⟨by kernel_rfl, ⟨rfl, rfl, rfl, by decide +kernel, rfl, by decide +kernel, by decide +kernel⟩, rfl, (fun _ _ _ _ _ _ _ us hl => match us, hl with | [_, _], _ => rfl), fun _ _ h => (h rfl).elim, rfl⟩
theorem b83ok12 : b83d12.Ok b83T := ⟨by kernel_rfl, ⟨rfl, rfl, rfl, by decide +kernel, rfl, by decide +kernel, by decide +kernel⟩, rfl, (fun _ _ _ _ _ _ _ us hl => match us, hl with | [_, _, _], _ => rfl), fun _ _ h => (h rfl).elim, rfl⟩
theorem b83ok13 : b83d13.Ok b83T := ⟨by kernel_rfl, ⟨rfl, rfl, rfl, by decide +kernel, rfl, by decide +kernel, by decide +kernel⟩, rfl, (fun _ _ _ _ _ _ _ us hl => match us, hl with | [_, _, _], _ => rfl), fun _ _ h => (h rfl).elim, rfl⟩
theorem b83ok14 : b83d14.Ok b83T := ⟨by kernel_rfl, ⟨rfl, rfl, rfl, by decide +kernel, rfl, by decide +kernel, by decide +kernel⟩, rfl, (fun _ _ _ _ _ _ _ us hl => match us, hl with | [_, _, _], _ => rfl), fun _ _ h => (h rfl).elim, rfl⟩
theorem b83ok15 : b83d15.Ok b83T := ⟨by kernel_rfl, ⟨rfl, rfl, rfl, by decide +kernel, rfl, by decide +kernel, by decide +kernel⟩, rfl, (fun _ _ _ _ _ _ _ us hl => match us, hl with | [_, _, _, _], _ => rfl), fun _ _ h => (h rfl).elim, rfl⟩
theorem b83ok16 : b83d16.Ok b83T := ⟨by kernel_rfl, ⟨rfl, rfl, rfl, by decide +kernel, rfl, by decide +kernel, by decide +kernel⟩, rfl, (fun _ _ _ _ _ _ _ us hl => match us, hl with | [_, _, _], _ => rfl), fun _ _ h => (h rfl).elim, rfl⟩
theorem b83ok17 : b83d17.Ok b83T := ⟨by kernel_rfl, ⟨rfl, rfl, rfl, by decide +kernel, rfl, by decide +kernel, by decide +kernel⟩, rfl, (fun _ _ _ _ _ _ _ us hl => match us, hl with | [_, _], _ => rfl), fun _ _ h => (h rfl).elim, rfl⟩
theorem b83ok18 : b83d18.Ok b83T := ⟨by kernel_rfl, ⟨rfl, rfl, rfl, by decide +kernel, rfl, by decide +kernel, by decide +kernel⟩, rfl, (fun _ _ _ _ _ _ _ us hl => match us, hl with | [_, _], _ => rfl), fun _ _ h => (h rfl).elim, rfl⟩
theorem b83ok19 : b83d19.Ok b83T := ⟨by kernel_rfl, ⟨rfl, rfl, rfl, by decide +kernel, rfl, by decide +kernel, by decide +kernel⟩, rfl, (fun _ _ _ _ _ _ _ us hl => match us, hl with | [_, _], _ => rfl), fun _ _ h => (h rfl).elim, rfl⟩
theorem b83ok20 : b83d20.Ok b83T := ⟨by kernel_rfl, ⟨rfl, rfl, rfl, by decide +kernel, rfl, by decide +kernel, by decide +kernel⟩, rfl, (fun _ _ _ _ _ _ _ us hl => match us, hl with | [_, _, _], _ => rfl), fun _ _ h => (h rfl).elim, rfl⟩
theorem b83ok21 : b83d21.Ok b83T := ⟨by kernel_rfl, ⟨rfl, rfl, rfl, by decide +kernel, rfl, by decide +kernel, by decide +kernel⟩, rfl, (fun _ _ _ _ _ _ _ us hl => match us, hl with | [_, _], _ => rfl), fun _ _ h => (h rfl).elim, rfl⟩
theorem b83ok22 : b83d22.Ok b83T := ⟨by kernel_rfl, ⟨rfl, rfl, rfl, by decide +kernel, rfl, by decide +kernel, by decide +kernel⟩, rfl, (fun _ _ _ _ _ _ _ us hl => match us, hl with | [_, _], _ => rfl), fun _ _ h => (h rfl).elim, rfl⟩
theorem b83ok23 : b83d23.Ok b83T := ⟨by kernel_rfl, ⟨rfl, rfl, rfl, by decide +kernel, rfl, by decide +kernel, by decide +kernel⟩, rfl, (fun _ _ _ _ _ _ _ us hl => match us, hl with | [_, _, _, _], _ => rfl), fun _ _ h => (h rfl).elim, rfl⟩
theorem b83ok24 : b83d24.Ok b83T := ⟨by kernel_rfl, ⟨rfl, rfl, rfl, by decide +kernel, rfl, by decide +kernel, by decide +kernel⟩, rfl, (fun _ _ _ _ _ _ _ us hl => match us, hl with | [_, _, _], _ => rfl), fun _ _ h => (h rfl).elim, rfl⟩
theorem b83ok25 : b83d25.Ok b83T := ⟨by kernel_rfl, ⟨rfl, rfl, rfl, by decide +kernel, rfl, by decide +kernel, by decide +kernel⟩, rfl, (fun _ _ _ _ _ _ _ us hl => match us, hl with | [_, _, _, _], _ => rfl), fun _ _ h => (h rfl).elim, rfl⟩
theorem b83ok26 : b83d26.Ok b83T := ⟨by kernel_rfl, ⟨rfl, rfl, rfl, by decide +kernel, rfl, by decide +kernel, by decide +kernel⟩, rfl, (fun _ _ _ _ _ _ _ us hl => match us, hl with | [_, _, _, _], _ => rfl), fun _ _ h => (h rfl).elim, rfl⟩
theorem b83ok27 : b83d27.Ok b83T := ⟨by kernel_rfl, ⟨rfl, rfl, rfl, by decide +kernel, rfl, by decide +kernel, by decide +kernel⟩, rfl, (fun _ _ _ _ _ _ _ us hl => match us, hl with | [_], _ => rfl), fun _ _ h => (h rfl).elim, rfl⟩
theorem b83ok28 : b83d28.Ok b83T := ⟨by kernel_rfl, ⟨rfl, rfl, rfl, by decide +kernel, rfl, by decide +kernel, by decide +kernel⟩, rfl, (fun _ _ _ _ _ _ _ us hl => match us, hl with | [_, _], _ => rfl), fun _ _ h => (h rfl).elim, rfl⟩
theorem b83ok29 : b83d29.Ok b83T := ⟨by kernel_rfl, ⟨rfl, rfl, rfl, by decide +kernel, rfl, by decide +kernel, by decide +kernel⟩, rfl, (fun _ _ _ _ _ _ _ us hl => match us, hl with | [_, _], _ => rfl), fun _ _ h => (h rfl).elim, rfl⟩
theorem b83ok30 : b83d30.Ok b83T := ⟨by kernel_rfl, ⟨rfl, rfl, rfl, by decide +kernel, rfl, by decide +kernel, by decide +kernel⟩, rfl, (fun _ _ _ _ _ _ _ us hl => match us, hl with | [_], _ => rfl), fun _ _ h => (h rfl).elim, rfl⟩
theorem b83ok31 : b83d31.Ok b83T := ⟨by kernel_rfl, ⟨rfl, rfl, rfl, by decide +kernel, rfl, by decide +kernel, by decide +kernel⟩, rfl, (fun _ _ _ _ _ _ _ us hl => match us, hl with | [_, _], _ => rfl), fun _ _ h => (h rfl).elim, rfl⟩
theorem b83ok32 : b83d32.Ok b83T := ⟨by kernel_rfl, ⟨rfl, rfl, rfl, by decide +kernel, rfl, by decide +kernel, by decide +kernel⟩, rfl, (fun _ _ _ _ _ _ _ us hl => match us, hl with | [_], _ => rfl), fun _ _ h => (h rfl).elim, rfl⟩
theorem b83ok33 : b83d33.Ok b83T := ⟨by kernel_rfl, ⟨rfl, rfl, rfl, by decide +kernel, rfl, by decide +kernel, by decide +kernel⟩, rfl, (fun _ _ _ _ _ _ _ us hl => match us, hl with | [_, _], _ => rfl), fun _ _ h => (h rfl).elim, rfl⟩
theorem b83ok34 : b83d34.Ok b83T := ⟨by kernel_rfl, ⟨rfl, rfl, rfl, by decide +kernel, rfl, by decide +kernel, by decide +kernel⟩, rfl, (fun _ _ _ _ _ _ _ us hl => match us, hl with | [_, _], _ => rfl), fun _ _ h => (h rfl).elim, rfl⟩
theorem b83ok35 : b83d35.Ok b83T := ⟨by kernel_rfl, ⟨rfl, rfl, rfl, by decide +kernel, rfl, by decide +kernel, by decide +kernel⟩, rfl, (fun _ _ _ _ _ _ _ us hl => match us, hl with | [_, _], _ => rfl), fun _ _ h => (h rfl).elim, rfl⟩
theorem b83ok36 : b83d36.Ok b83T := ⟨by kernel_rfl, ⟨rfl, rfl, rfl, by decide +kernel, rfl, by decide +kernel, by decide +kernel⟩, rfl, (fun _ _ _ _ _ _ _ us hl => match us, hl with | [_, _], _ => rfl), fun _ _ h => (h rfl).elim, rfl⟩
theorem b83ok37 : b83d37.Ok b83T := ⟨by kernel_rfl, ⟨rfl, rfl, rfl, by decide +kernel, rfl, by decide +kernel, by decide +kernel⟩, rfl, (fun _ _ _ _ _ _ _ us hl => match us, hl with | [_, _], _ => rfl), fun _ _ h => (h rfl).elim, rfl⟩
theorem b83ok38 : b83d38.Ok b83T := ⟨by kernel_rfl, ⟨rfl, rfl, rfl, by decide +kernel, rfl, by decide +kernel, by decide +kernel⟩, rfl, (fun _ _ _ _ _ _ _ us hl => match us, hl with | [_, _], _ => rfl), fun _ _ h => (h rfl).elim, rfl⟩
theorem b83ok39 : b83d39.Ok b83T := ⟨by kernel_rfl, ⟨rfl, rfl, rfl, by decide +kernel, rfl, by decide +kernel, by decide +kernel⟩, rfl, (fun _ _ _ _ _ _ _ us hl => match us, hl with | [_, _], _ => rfl), fun _ _ h => (h rfl).elim, rfl⟩
theorem b83ok40 : b83d40.Ok b83T := ⟨by kernel_rfl, ⟨rfl, rfl, rfl, by decide +kernel, rfl, by decide +kernel, by decide +kernel⟩, rfl, (fun _ _ _ _ _ _ _ us hl => match us, hl with | [_, _], _ => rfl), fun _ _ h => (h rfl).elim, rfl⟩
theorem b83ok41 : b83d41.Ok b83T := ⟨by kernel_rfl, ⟨rfl, rfl, rfl, by decide +kernel, rfl, by decide +kernel, by decide +kernel⟩, rfl, (fun _ _ _ _ _ _ _ us hl => match us, hl with | [_, _, _], _ => rfl), fun _ _ h => (h rfl).elim, rfl⟩
theorem b83ok42 : b83d42.Ok b83T := ⟨by kernel_rfl, ⟨rfl, rfl, rfl, by decide +kernel, rfl, by decide +kernel, by decide +kernel⟩, rfl, (fun _ _ _ _ _ _ _ us hl => match us, hl with | [_, _], _ => rfl), fun _ _ h => (h rfl).elim, rfl⟩
theorem b83ok43 : b83d43.Ok b83T := ⟨by kernel_rfl, ⟨rfl, rfl, rfl, by decide +kernel, rfl, by decide +kernel, by decide +kernel⟩, rfl, (fun _ _ _ _ _ _ _ us hl => match us, hl with | [_, _, _, _], _ => rfl), fun _ _ h => (h rfl).elim, rfl⟩
theorem b83ok44 : b83d44.Ok b83T := ⟨by kernel_rfl, ⟨rfl, rfl, rfl, by decide +kernel, rfl, by decide +kernel, by decide +kernel⟩, rfl, (fun _ _ _ _ _ _ _ us hl => match us, hl with | [_, _, _, _], _ => rfl), fun _ _ h => (h rfl).elim, rfl⟩
theorem b83ok45 : b83d45.Ok b83T := ⟨by kernel_rfl, ⟨rfl, rfl, rfl, by decide +kernel, rfl, by decide +kernel, by decide +kernel⟩, rfl, (fun _ _ _ _ _ _ _ us hl => match us, hl with | [_], _ => rfl), fun _ _ h => (h rfl).elim, rfl⟩
theorem b83ok46 : b83d46.Ok b83T := ⟨by kernel_rfl, ⟨rfl, rfl, rfl, by decide +kernel, rfl, by decide +kernel, by decide +kernel⟩, rfl, (fun _ _ _ _ _ _ _ us hl => match us, hl with | [_, _], _ => rfl), fun _ _ h => (h rfl).elim, rfl⟩
theorem b83all : ∀ d ∈ b83defs, d.Ok b83T := by
  intro d hd
  simp only [b83defs, List.mem_cons, List.not_mem_nil, or_false] at hd
  rcases hd with rfl | rfl | rfl | rfl | rfl | rfl | rfl | rfl | rfl | rfl | rfl | rfl | rfl | rfl | rfl | rfl | rfl | rfl | rfl | rfl | rfl | rfl | rfl | rfl | rfl | rfl | rfl | rfl | rfl | rfl | rfl | rfl | rfl | rfl | rfl | rfl | rfl | rfl | rfl | rfl | rfl | rfl | rfl | rfl | rfl | rfl | rfl
  · exact b83ok0
  · exact b83ok1
  · exact b83ok2
  · exact b83ok3
  · exact b83ok4
  · exact b83ok5
  · exact b83ok6
  · exact b83ok7
  · exact b83ok8
  · exact b83ok9
  · exact b83ok10
  · exact b83ok11
  · exact b83ok12
  · exact b83ok13
  · exact b83ok14
  · exact b83ok15
  · exact b83ok16
  · exact b83ok17
  · exact b83ok18
  · exact b83ok19
  · exact b83ok20
  · exact b83ok21
  · exact b83ok22
  · exact b83ok23
  · exact b83ok24
  · exact b83ok25
  · exact b83ok26
  · exact b83ok27
  · exact b83ok28
  · exact b83ok29
  · exact b83ok30
  · exact b83ok31
  · exact b83ok32
  · exact b83ok33
  · exact b83ok34
  · exact b83ok35
  · exact b83ok36
  · exact b83ok37
  · exact b83ok38
  · exact b83ok39
  · exact b83ok40
  · exact b83ok41
  · exact b83ok42
  · exact b83ok43
  · exact b83ok44
  · exact b83ok45
  · exact b83ok46
end K83

-- K83P1
set_option maxHeartbeats 4000000
namespace K83
open PySem Pi
abbrev C (L n : Nat) : Oracle := Pi.call (tabOf b83defs) L n
abbrev W (p q c : Int) : D := .tup [.int p, .int q, .int c]
structure GW (m : Int) (p q c : Int) : Prop where
  p1 : 1 ≤ p
  p2 : p ≤ m
  q1 : 1 ≤ q
  q2 : q ≤ m
  g : Int.gcd p q = 1
  c1 : -10000000 ≤ c
  c2 : c ≤ 10000000
  m2 : m ≤ 100000
theorem call_to {L n j : Nat} {d : TDef} {args : List Slot} (h : b83defs[j]? = some d) : C L (n + 1) j args = runDef (C L n) L ⟨d.mask, d.N.length, d.code⟩ args := call_at h
section
variable {L n : Nat}
theorem s_isInt {d : D} (h : noFn d = true) : C L (n+1) 0 [.val d] = some (.val (.bl (isInt d)), []) := by
  rw [call_to (d := b83d0) rfl]; exact run_isInt h
theorem s_fromTo {d : D} {a b : Int} (h : noFn d = true) : C L (n+2) 1 [.val d, .val (.int a), .val (.int b)] = some (.val (.bl (inB a b d)), []) := by
  rw [call_to (d := b83d1) rfl]; exact run_fromTo (s_isInt h)
theorem s_tupleOf {d : D} {a b : Int} (h : noFn d = true) : C L (n+1) 2 [.val d, .val (.int a), .val (.int b)] = some (.val (.bl (isTupB a b d)), []) := by
  rw [call_to (d := b83d2) rfl]; exact run_tupleOf h
theorem s_check {x a b : Int} {nm : D} (h1 : a ≤ x) (h2 : x ≤ b) : C L (n+3) 3 [.val (.int x), .val (.int a), .val (.int b), .val nm] = some (.val .non, []) := by
  rw [call_to (d := b83d3) rfl]
  refine run_check (j1 := 1) ((s_fromTo rfl).trans ?_)
  simp only [inB, decide_eq_true h1, decide_eq_true h2]
  rfl
theorem s_gcd {a b : Int} (hb : 0 ≤ b) (hL : b.toNat < L) : C L (n+1) 4 [.val (.int a), .val (.int b)] = some (.val (.int (Int.gcd a b)), []) := by
  rw [call_to (d := b83d4) rfl]; exact run_gcd hb hL
theorem s_world {m p q c : Int} (G : GW m p q c) (hL : 200000 < L) : C L (n+4) 6 [.val (W p q c)] = some (.val (.bl true), []) := by
  have g1 := G.p1; have g2 := G.p2; have g3 := G.q1; have g4 := G.q2; have g5 := G.c1; have g6 := G.c2; have g7 := G.m2
  have h5 : C L (n+3) 5 [.val (.tup [.int p, .int q])] = some (.val (.bl true), []) := by
    rw [call_to (d := b83d5) rfl]
    exact run_frac (j1 := 1) (j2 := 2) (j4 := 4) (by omega) (by omega) G.g (fun x a b => s_fromTo rfl) (s_tupleOf rfl) (s_gcd (by omega) (by omega))
  rw [call_to (d := b83d6) rfl]
  exact run_world (j1 := 1) (j2 := 2) (j5 := 5) (by omega) (fun x a b => s_fromTo rfl) (s_tupleOf rfl) h5
theorem s_checkDay {x : Int} {nm : D} (h1 : -(10 ^ 15) ≤ x) (h2 : x ≤ 10 ^ 15) : C L (n+4) 7 [.val (.int x), .val nm] = some (.val .non, []) := by
  have h := s_check (L := L) (n := n) (x := x) (a := -1000000000000000) (b := 1000000000000000) (nm := nm) (by omega) (by omega)
  rw [call_to (d := b83d7) rfl]
  simp only [b83d7, b83check_day]
  simp_arith [h]
theorem s_dayAmong {p q c e : Int} (hp : MulOk p e) (hq : DivOk q) : C L (n+1) 8 [.val (W p q c), .val (.int e)] = some (.val (.int ((p * e + c) / q)), []) := by
  rw [call_to (d := b83d8) rfl]; exact run_day hp hq
theorem s_checkPair {m p q c p' q' c' : Int} (G : GW m p q c) (G' : GW m p' q' c') (hL : 200000 < L) : C L (n+5) 10 [.val (W p q c), .val (W p' q' c'), .val (.int m)] = some (.val .non, []) := by
  rw [call_to (d := b83d10) rfl]
  simp only [b83d10, b83check_pair]
  have g1 := G.p1; have g2 := G.p2; have g3 := G.q2
  have k1 := G'.p1; have k2 := G'.p2; have k3 := G'.q2
  have a2 : ¬ m < q := by omega
  have a4 : ¬ m < q' := by omega
  simp_arith [f_cons, s_world (n := n) G hL, s_world (n := n) G' hL, s_fromTo (L := L) (n := n + 2) (d := .int p) rfl, s_fromTo (L := L) (n := n + 2) (d := .int p') rfl, inB, decide_eq_true g1, decide_eq_true g2, decide_eq_false a2, decide_eq_true k1, decide_eq_true k2, decide_eq_false a4]
theorem s_firstEvent {p q c e : Int} (hp : MulOk q e) (hq : DivOk p) : C L (n+1) 11 [.val (W p q c), .val (.int e)] = some (.val (.int (-((c - q * e) / p))), []) := by
  rw [call_to (d := b83d11) rfl]
  simp only [b83d11, b83first_event]
  simp_arith [decide_eq_true hp, fdiv_int hq]
theorem H_or {q c m r : Int} (hm : 0 < m) : (decide (m ≤ q) || decide ((q * r + q - 1 - c) % m < q)) = H m q c r := by
  by_cases h : m ≤ q
  · rw [decide_eq_true h, Bool.true_or, H_all hm h]
  · rw [decide_eq_false h, Bool.false_or]; rfl
theorem s_hasRest {p q c m r : Int} (hp : MulOk q r) (hm : 0 < m) : C L (n+1) 12 [.val (W p q c), .val (.int m), .val (.int r)] = some (.val (.bl (H m q c r)), []) := by
  rw [call_to (d := b83d12) rfl]
  simp only [b83d12, b83has_rest]
  simp_arith [decide_eq_true hp, mod_int hm]
  rw [← H_or hm]
  cases decide (m ≤ q) <;> rfl
def firstR (f : Int → Bool) : List Int → Option Int
  | [] => none
  | r :: rs => if f r = true then some r else firstR f rs
theorem firstR_some {f : Int → Bool} : ∀ {rs : List Int} {r : Int}, firstR f rs = some r → r ∈ rs ∧ f r = true
  | [], r, h => by cases h
  | x :: rs, r, h => by
    unfold firstR at h
    split at h
    · cases h
      exact ⟨List.mem_cons_self, by assumption⟩
    · have := firstR_some h
      exact ⟨List.mem_cons_of_mem _ this.1, this.2⟩
theorem firstR_none {f : Int → Bool} : ∀ {rs : List Int}, firstR f rs = none → ∀ r ∈ rs, f r = false
  | [], h, r, hr => by cases hr
  | x :: rs, h, r, hr => by
    unfold firstR at h
    split at h
    · cases h
    · rcases List.mem_cons.mp hr with e | e
      · subst e
        simpa using (by assumption : ¬ f r = true)
      · exact firstR_none h r e
theorem mulS {i j : Int} (h : -(2 ^ 60) ≤ i ∧ i ≤ 2 ^ 60) : MulOk i j := mulOk_l (by omega) (by omega)
def comR (q c q' c' m : Int) (r : Int) : Bool := H m q c r && H m q' c' r
theorem common_loop {p q c p' q' c' m : Int} (hq : 0 ≤ q ∧ q ≤ 100000) (hq' : 0 ≤ q' ∧ q' ≤ 100000) (hm : 0 < m) : ∀ (rs : List Int) (s : Slot), nio s = true →
    ∃ s', nio s' = true ∧ doF (C L (n+1)) L (.nm 3) (.cons (.ife (.and (.call 12 (.cons (.var 0) (.cons (.var 2) (.cons (.var 3) .nil))) []) (.call 12 (.cons (.var 1) (.cons (.var 2) (.cons (.var 3) .nil))) [])) (.cons (.retv 3) .nil) .nil) .nil) (rs.map D.int) [.val (W p q c), .val (W p' q' c'), .val (.int m), s] =
      match firstR (comR q c q' c' m) rs with
      | some r => some (.rt (.val (.int r)) [.val (W p q c), .val (W p' q' c'), .val (.int m), s'])
      | none => some (.nx [.val (W p q c), .val (W p' q' c'), .val (.int m), s'])
  | [], s, hs => ⟨s, hs, rfl⟩
  | r :: rs, s, hs => by
    have h1 := s_hasRest (L := L) (n := n) (p := p) (q := q) (c := c) (r := r) (mulS (by omega)) hm
    have h2 := s_hasRest (L := L) (n := n) (p := p') (q := q') (c := c') (r := r) (mulS (by omega)) hm
    by_cases e : comR q c q' c' m r = true
    · refine ⟨.val (.int r), rfl, ?_⟩
      have e' := e
      unfold comR at e'
      rw [Bool.and_eq_true] at e'
      unfold firstR
      rw [if_pos e]
      simp_arith [f_cons, hs, h1, h2, e'.1, e'.2]
    · obtain ⟨s', i1, i2⟩ := common_loop hq hq' hm rs (.val (.int r)) rfl
      refine ⟨s', i1, ?_⟩
      have e' : comR q c q' c' m r = false := by simpa using e
      unfold comR at e'
      unfold firstR
      rw [if_neg e, ← i2]
      cases k : H m q c r with
      | true =>
        rw [k, Bool.true_and] at e'
        simp_arith [f_cons, hs, h1, h2, e', k]
      | false =>
        simp_arith [f_cons, hs, h1, h2, k]
def restsTo (m : Int) : List Int := upI 0 m.toNat
theorem s_commonRest {p q c p' q' c' m : Int} (hq : 0 ≤ q ∧ q ≤ 100000) (hq' : 0 ≤ q' ∧ q' ≤ 100000) (hm : 0 < m) (hm2 : m ≤ 1000000) : C L (n+2) 13 [.val (W p q c), .val (W p' q' c'), .val (.int m)] = some (.val (match firstR (comR q c q' c' m) (restsTo m) with | some r => .int r | none => .non), []) := by
  rw [call_to (d := b83d13) rfl]
  simp only [b83d13, b83common_rest]
  obtain ⟨s', h1, h2⟩ := common_loop (L := L) (n := n) (p := p) (c := c) (p' := p') (c' := c') hq hq' hm (restsTo m) .nil rfl
  have hr : rangeD 0 m.toNat = (restsTo m).map D.int := rangeD_up _ _
  have hs : decide (Small m ∧ m ≤ 16777216) = true := decide_eq_true ⟨⟨by omega, by omega⟩, by omega⟩
  simp_arith [hs, hr, h2]
  cases firstR (comR q c q' c' m) (restsTo m) <;> simp_arith []
theorem s_daysWith {p q c m r : Int} (hq : 0 ≤ q ∧ q ≤ 100000) (hm : 0 < m) (hm2 : m ≤ 1000000) : C L (n+1) 16 [.val (W p q c), .val (.int m), .val (.int r)] = some (.val (.int (dw p q c m r)), []) := by
  have hm1 : MulOk q r := mulS (by omega)
  have hd : DivOk m := divOk_of hm (by omega)
  rw [call_to (d := b83d16) rfl]
  simp only [b83d16, b83days_with]
  unfold dw
  by_cases h : p ≤ q
  · simp_arith [decide_eq_true h, fdiv_int hd, h]
  · by_cases h2 : (q * r + q - 1 - c) % m < q % m
    · simp_arith [decide_eq_false h, fdiv_int hd, decide_eq_true hm1, mod_int hm, decide_eq_true h2, h, h2]
    · simp_arith [decide_eq_false h, fdiv_int hd, decide_eq_true hm1, mod_int hm, decide_eq_false h2, h, h2]
theorem s_eventsOn {p q c d : Int} (hq : 0 ≤ q ∧ q ≤ 100000) (hp : 0 < p) (hp2 : p ≤ 100000) : C L (n+1) 22 [.val (W p q c), .val (.int d)] = some (.val (.int (ev p q c d)), []) := by
  have hm1 : MulOk q d := mulS (by omega)
  have hd : DivOk p := divOk_of hp (by omega)
  rw [call_to (d := b83d22) rfl]
  simp only [b83d22, b83events_on]
  simp_arith [decide_eq_true hm1, fdiv_int hd]
  rfl
end
end K83

-- K83P2
set_option maxHeartbeats 4000000
namespace K83
open PySem Pi
section
variable {L n : Nat} {cl : Oracle}
theorem inv_loop {p q : Int} (hq : 1 ≤ q) (hq2 : q < 2 ^ 62) : ∀ (m : Nat) (one two low high : Int) (w : Slot), nio w = true → 0 ≤ two → two.toNat < m → 0 < one → one ≤ q → two ≤ q → Int.gcd one two = 1 → (two = 0 → q = 1) → q ∣ low * p - one → q ∣ high * p - two →
    ∃ (one' two' low' high' : Int) (w' : Slot), nio w' = true ∧ two' ≤ 1 ∧ 0 ≤ two' ∧ (two' = 0 → q = 1) ∧ q ∣ high' * p - two' ∧
    doW cl L (.cmp .gt (.var 3) (.cst (.int (1)))) (.cons (.asg (.nm 6) (.bin .fdiv (.var 2) (.var 3))) (.cons (.asl [2, 3] (.cons (.var 3) (.cons (.bin .sub (.var 2) (.bin .mul (.var 6) (.var 3))) .nil))) (.cons (.asl [4, 5] (.cons (.var 5) (.cons (.bin .sub (.var 4) (.bin .mul (.var 6) (.var 5))) .nil))) .nil))) m
      [.val (.int p), .val (.int q), .val (.int one), .val (.int two), .val (.int low), .val (.int high), w] = some (.nx [.val (.int p), .val (.int q), .val (.int one'), .val (.int two'), .val (.int low'), .val (.int high'), w'])
  | 0, one, two, low, high, w, _, _, h, _, _, _, _, _, _, _ => by omega
  | m + 1, one, two, low, high, w, hw, h0, hm, h1, h1q, h2q, hg, hz, d1, d2 => by
    rw [w_succ]
    by_cases ht : 1 < two
    · have hd : DivOk two := divOk_of (by omega) (by omega)
      have e : one - one / two * two = one % two := by
        have := Int.emod_add_mul_ediv one two
        rw [Int.mul_comm (one / two) two]
        omega
      have q1 := Int.emod_nonneg one (show two ≠ 0 by omega)
      have q2 := Int.emod_lt_of_pos one (show 0 < two by omega)
      have q3 : 0 ≤ one / two := Int.ediv_nonneg (by omega) (by omega)
      have q4 : one / two ≤ one := Int.ediv_le_self _ (by omega)
      have hm1 : MulOk (one / two) two := mulOk_r (by omega) (by omega)
      have hm2 : MulOk (one / two) high := mulOk_l (by omega) (by omega)
      have hg' : Int.gcd two (one % two) = 1 := by rw [gcd_step]; exact hg
      have hz' : one % two = 0 → q = 1 := fun hz => by
        rw [hz, Int.gcd_zero_right] at hg'
        omega
      have d3 : q ∣ (low - one / two * high) * p - one % two := by
        have e2 : (low - one / two * high) * p - one % two = (low * p - one) - one / two * (high * p - two) := by
          rw [← e]
          grind
        rw [e2]
        exact Int.dvd_sub d1 (Int.dvd_mul_of_dvd_right d2)
      obtain ⟨o', t', l', h', w', r1, r2, r3, r4, r5, r6⟩ := inv_loop hq hq2 m two (one % two) high (low - one / two * high) (.val (.int (one / two))) rfl q1 (by omega) (by omega) (by omega) (by omega) hg' hz' d2 d3
      refine ⟨o', t', l', h', w', r1, r2, r3, r4, r5, ?_⟩
      simp_arith [decide_eq_true ht, fdiv_int hd, decide_eq_true hm1, decide_eq_true hm2, hw, e]
      exact r6
    · refine ⟨one, two, low, high, w, hw, by omega, h0, hz, d2, ?_⟩
      simp_arith [decide_eq_false ht]
theorem s_inverse {p q : Int} (hq : 1 ≤ q) (hq2 : q < 2 ^ 62) (hg : Int.gcd p q = 1) (hL : q.toNat < L) : ∃ r : Int, C L (n+1) 9 [.val (.int p), .val (.int q)] = some (.val (.int r), []) ∧ 0 ≤ r ∧ r < q ∧ q ∣ r * p - 1 := by
  have q1 := Int.emod_nonneg p (show q ≠ 0 by omega)
  have q2 := Int.emod_lt_of_pos p (show 0 < q by omega)
  have hg' : Int.gcd q (p % q) = 1 := by rw [gcd_step]; exact hg
  have hz' : p % q = 0 → q = 1 := fun hz => by
    rw [hz, Int.gcd_zero_right] at hg'
    omega
  have d2 : q ∣ 1 * p - p % q := by
    rw [Int.one_mul]
    exact Int.dvd_self_sub_emod
  obtain ⟨o', t', l', h', w', r1, r2, r3, r4, r5, r6⟩ := inv_loop (cl := C L n) (L := L) (p := p) hq hq2 L q (p % q) 0 1 .nil rfl q1 (by omega) (by omega) (by omega) (by omega) hg' hz' (by rw [Int.zero_mul, Int.zero_sub]; exact Int.dvd_neg.mpr (Int.dvd_refl q)) d2
  have hq0 : 0 < q := by omega
  refine ⟨h' % q, ?_, Int.emod_nonneg _ (by omega), Int.emod_lt_of_pos _ hq0, ?_⟩
  · rw [call_to (d := b83d9) rfl]
    simp only [b83d9, b83inverse]
    simp_arith [r6, mod_int hq0]
  · have e1 : q ∣ h' * p - 1 := by
      by_cases ht : t' = 0
      · rw [r4 ht]
        exact Int.one_dvd _
      · have : t' = 1 := by omega
        rw [this] at r5
        exact r5
    have e2 : h' % q * p - 1 = (h' * p - 1) - (h' / q * p) * q := by
      have := Int.emod_add_mul_ediv h' q
      grind
    rw [e2]
    exact Int.dvd_sub e1 (Int.dvd_mul_left _ _)
end
theorem cop_dvd {m k x : Int} (h : Int.gcd m k = 1) (hd : m ∣ k * x) : m ∣ x := by
  rw [← Int.natAbs_dvd_natAbs, Int.natAbs_mul] at hd
  rw [← Int.natAbs_dvd_natAbs]
  exact Nat.Coprime.dvd_of_dvd_mul_left h hd
theorem day_ok {p q c m r i : Int} (hp : 0 < p) (hq : 1 ≤ q) (hqp : q < p) (hg : Int.gcd p q = 1) (hm : 0 < m) (hmp : m ∣ p) (hr : H m q c r = true) (hi : p ∣ i * q - 1) :
    H p q c (((q * r + q - 1 - c) % m - q + 1 + c) * i % p) = true ∧ m ∣ ((q * r + q - 1 - c) % m - q + 1 + c) * i % p - r := by
  have l0 := Int.emod_nonneg (q * r + q - 1 - c) (show m ≠ 0 by omega)
  have l2 : (q * r + q - 1 - c) % m < q := of_decide_eq_true hr
  have l3 : m ∣ (q * r + q - 1 - c) - (q * r + q - 1 - c) % m := Int.dvd_self_sub_emod
  generalize hl : (q * r + q - 1 - c) % m = left at *
  have d1 : p ∣ (left - q + 1 + c) * i - (left - q + 1 + c) * i % p := Int.dvd_self_sub_emod
  generalize hd : (left - q + 1 + c) * i % p = d at *
  have d2 : p ∣ q * d - (left - q + 1 + c) := by
    have e : q * d - (left - q + 1 + c) = (left - q + 1 + c) * (i * q - 1) - q * ((left - q + 1 + c) * i - d) := by grind
    rw [e]
    exact Int.dvd_sub (Int.dvd_mul_of_dvd_right hi) (Int.dvd_mul_of_dvd_right d1)
  constructor
  · unfold H
    have e : (q * d + q - 1 - c) % p = left := by
      apply emod_of' (by omega) (by omega)
      have e : q * d + q - 1 - c - left = q * d - (left - q + 1 + c) := by omega
      rw [e]
      exact d2
    rw [e]
    exact decide_eq_true (by omega)
  · have d3 : m ∣ q * (d - r) := by
      have e : q * (d - r) = (q * d - (left - q + 1 + c)) - ((q * r + q - 1 - c) - left) := by grind
      rw [e]
      exact Int.dvd_sub (Int.dvd_trans hmp d2) l3
    exact cop_dvd (cop_of hg hmp) d3
section
variable {L n : Nat}
theorem s_dayWith {m p q c g r : Int} (G : GW m p q c) (hg : 0 < g) (hgp : g ∣ p) (h0 : 0 ≤ r) (h1 : r < g) (hr : H g q c r = true) (hL : 200000 < L) :
    ∃ d : Int, C L (n+2) 14 [.val (W p q c), .val (.int g), .val (.int r)] = some (.val (.int d), []) ∧ 0 ≤ d ∧ d < p ∧ H p q c d = true ∧ g ∣ d - r := by
  have g1 := G.p1; have g2 := G.p2; have g3 := G.q1; have g4 := G.q2; have g5 := G.c1; have g6 := G.c2; have g7 := G.m2
  have hgle : g ≤ p := Int.le_of_dvd (by omega) hgp
  rw [call_to (d := b83d14) rfl]
  simp only [b83d14, b83day_with]
  by_cases hqp : p ≤ q
  · refine ⟨r, ?_, h0, by omega, H_all (by omega) hqp, by rw [Int.sub_self]; exact Int.dvd_zero g⟩
    simp_arith [decide_eq_true hqp]
  · have hqp' : q < p := by omega
    obtain ⟨i, i1, i2, i3, i4⟩ := s_inverse (L := L) (n := n) (p := q) (q := p) g1 (by omega) (by rw [Int.gcd_comm]; exact G.g) (by omega)
    obtain ⟨e1, e2⟩ := day_ok (by omega) g3 hqp' G.g hg hgp hr i4
    have hp0 : 0 < p := by omega
    refine ⟨((q * r + q - 1 - c) % g - q + 1 + c) * i % p, ?_, Int.emod_nonneg _ (by omega), Int.emod_lt_of_pos _ hp0, e1, e2⟩
    have hm1 : Pi.MulOk q r := mulS (by omega)
    have hm2 : Pi.MulOk ((q * r + q - 1 - c) % g - q + 1 + c) i := mulOk_r (by omega) (by omega)
    simp_arith [decide_eq_false (show ¬ p ≤ q by omega), decide_eq_true hm1, mod_int hg, mod_int hp0, i1, decide_eq_true hm2]
theorem gcd_pos {p p' : Int} (h : 1 ≤ p) : 0 < (Int.gcd p p' : Int) := by
  have : Int.gcd p p' ≠ 0 := by rw [Ne, Int.gcd_eq_zero_iff]; omega
  omega
theorem s_dayBoth {m p q c p' q' c' r : Int} (G : GW m p q c) (G' : GW m p' q' c') (h0 : 0 ≤ r) (h1 : r < (Int.gcd p p' : Int)) (hr : comR q c q' c' (Int.gcd p p') r = true) (hL : 200000 < L) :
    ∃ d : Int, C L (n+3) 15 [.val (W p q c), .val (W p' q' c'), .val (.int (Int.gcd p p')), .val (.int r)] = some (.val (.int d), []) ∧ 0 ≤ d ∧ d ≤ 20000000000 ∧ H p q c d = true ∧ H p' q' c' d = true := by
  have g1 := G.p1; have g2 := G.p2; have k1 := G'.p1; have k2 := G'.p2; have g7 := G.m2
  have hmp := Int.gcd_dvd_left p p'
  have hmp' := Int.gcd_dvd_right p p'
  have hm : 0 < (Int.gcd p p' : Int) := by omega
  have hcop : Int.gcd (p / (Int.gcd p p' : Int)) (p' / (Int.gcd p p' : Int)) = 1 := Int.gcd_ediv_gcd_ediv_gcd (by omega)
  generalize hmm : (Int.gcd p p' : Int) = m at *
  unfold comR at hr
  rw [Bool.and_eq_true] at hr
  obtain ⟨one, a1, a2, a3, a4, a5⟩ := s_dayWith (L := L) (n := n) G hm hmp h0 h1 hr.1 hL
  obtain ⟨two, b1, b2, b3, b4, b5⟩ := s_dayWith (L := L) (n := n) G' hm hmp' h0 h1 hr.2 hL
  have hle : m ≤ p := Int.le_of_dvd (by omega) hmp
  have hle' : m ≤ p' := Int.le_of_dvd (by omega) hmp'
  have e1 : m * (p / m) = p := Int.mul_ediv_cancel' hmp
  have e2 : m * (p' / m) = p' := Int.mul_ediv_cancel' hmp'
  have t1 : 0 < p' / m := Int.ediv_pos_of_pos_of_dvd (by omega) (by omega) hmp'
  have t2 : p' / m ≤ p' := Int.ediv_le_self _ (by omega)
  obtain ⟨i, i1, i2, i3, i4⟩ := s_inverse (L := L) (n := n + 1) (p := p / m) (q := p' / m) (by omega) (by omega) hcop (by omega)
  have hd : m ∣ two - one := by
    have e : two - one = (two - r) - (one - r) := by omega
    rw [e]
    exact Int.dvd_sub b5 a5
  have e3 : m * ((two - one) / m) = two - one := Int.mul_ediv_cancel' hd
  have tn := Int.emod_nonneg ((two - one) / m * i) (show p' / m ≠ 0 by omega)
  have tl := Int.emod_lt_of_pos ((two - one) / m * i) t1
  have td : p' / m ∣ (two - one) / m * i - (two - one) / m * i % (p' / m) := Int.dvd_self_sub_emod
  have bnd : (two - one) / m * i % (p' / m) * p ≤ 100000 * 100000 := Int.mul_le_mul (by omega) (by omega) (by omega) (by omega)
  have bnd0 : 0 ≤ (two - one) / m * i % (p' / m) * p := Int.mul_nonneg tn (by omega)
  refine ⟨one + (two - one) / m * i % (p' / m) * p, ?_, by omega, by omega, ?_, ?_⟩
  · rw [call_to (d := b83d15) rfl]
    simp only [b83d15, b83day_among_both]
    have hm1 : Pi.MulOk ((two - one) / m) i := mulOk_r (by omega) (by omega)
    have hm2 : Pi.MulOk ((two - one) / m * i % (p' / m)) p := mulOk_r (by omega) (by omega)
    simp_arith [a1, b1, fdiv_int (divOk_of hm (by omega)), i1, mod_int t1, decide_eq_true hm1, decide_eq_true hm2]
  · rw [H_mod (d' := one)]
    · exact a4
    · have e : one + (two - one) / m * i % (p' / m) * p - one = (two - one) / m * i % (p' / m) * p := by omega
      rw [e]
      exact Int.dvd_mul_left _ _
  · rw [H_mod (d' := two)]
    · exact b4
    · generalize (two - one) / m * i % (p' / m) = t at *
      generalize (two - one) / m = k at *
      have e : one + t * p - two = m * (t * (p / m) - k) := by grind
      rw [e]
      have d1 : p' / m ∣ t * (p / m) - k := by
        have e : t * (p / m) - k = k * (i * (p / m) - 1) - (k * i - t) * (p / m) := by grind
        rw [e]
        exact Int.dvd_sub (Int.dvd_mul_of_dvd_right i4) (Int.dvd_mul_of_dvd_left td)
      have := Int.mul_dvd_mul_left m d1
      rwa [e2] at this
theorem mem_rests {m r : Int} (h : r ∈ restsTo m) : 0 ≤ r ∧ r < m := by
  have := mem_up.mp h
  omega
theorem s_bothPaper {p q c p' q' c' : Int} (G : GW 100000 p q c) (G' : GW 100000 p' q' c') (hL : 200000 < L) :
    (firstR (comR q c q' c' (Int.gcd p p')) (restsTo (Int.gcd p p')) = none ∧ C L (n+6) 19 [.val (W p q c), .val (W p' q' c')] = some (.val (.tup [.str "never", .int (Int.gcd p p')]), [])) ∨
    (firstR (comR q c q' c' (Int.gcd p p')) (restsTo (Int.gcd p p')) ≠ none ∧ ∃ d : Int, 0 ≤ d ∧ d ≤ 20000000000 ∧ H p q c d = true ∧ H p' q' c' d = true ∧ C L (n+6) 19 [.val (W p q c), .val (W p' q' c')] = some (.val (.tup [.str "both", .int d, .int (-((c - q * d) / p)), .int (-((c' - q' * d) / p'))]), [])) := by
  have g1 := G.p1; have g2 := G.p2; have k1 := G'.p1; have k2 := G'.p2
  have g3 := G.q1; have g4 := G.q2; have k3 := G'.q1; have k4 := G'.q2
  have hg := s_gcd (L := L) (n := n + 4) (a := p) (b := p') (by omega) (by omega)
  have hm := gcd_pos (p' := p') g1
  have hle : (Int.gcd p p' : Int) ≤ p := Int.le_of_dvd (by omega) (Int.gcd_dvd_left p p')
  have hc := s_commonRest (L := L) (n := n + 3) (p := p) (q := q) (c := c) (p' := p') (q' := q') (c' := c') (by omega) (by omega) hm (by omega)
  have hk := s_checkPair (L := L) (n := n) G G' (by omega)
  rw [call_to (d := b83d19) rfl]
  simp only [b83d19, b83both_paper]
  cases hf : firstR (comR q c q' c' (Int.gcd p p')) (restsTo (Int.gcd p p')) with
  | none =>
    rw [hf] at hc
    refine .inl ⟨rfl, ?_⟩
    simp_arith [hk, hg, hc]
  | some r =>
    rw [hf] at hc
    obtain ⟨hr1, hr2⟩ := firstR_some hf
    have hr := mem_rests hr1
    obtain ⟨d, d1, d2, d3, d4, d5⟩ := s_dayBoth (L := L) (n := n + 2) G G' hr.1 hr.2 hr2 hL
    refine .inr ⟨by simp, d, d2, d3, d4, d5, ?_⟩
    have f1 := s_firstEvent (L := L) (n := n + 4) (p := p) (q := q) (c := c) (e := d) (mulOk_r (by omega) (by omega)) (divOk_of (by omega) (by omega))
    have f2 := s_firstEvent (L := L) (n := n + 4) (p := p') (q := q') (c := c') (e := d) (mulOk_r (by omega) (by omega)) (divOk_of (by omega) (by omega))
    simp_arith [hk, hg, hc, d1, f1, f2]
theorem allInt_map : ∀ (xs : List Int), allInt (xs.map D.int) = some xs
  | [] => rfl
  | x :: xs => by
    show (allInt (xs.map D.int)).map (x :: ·) = _
    rw [allInt_map xs]
    rfl
theorem sum_ints {xs : List Int} : evalBI .sum [.ls (xs.map D.int)] = some (.val (.int xs.sum)) := by
  show (allInt (xs.map D.int)).map _ = _
  rw [allInt_map]
  rfl
def sumDw (p q c p' q' c' g : Int) : Int := ((restsTo g).map fun r => dw p q c g r * dw p' q' c' g r).sum
theorem dw_le {p q c g r : Int} (hp : 0 < p) (hq : 0 < q) (hg : 0 < g) (hp2 : p ≤ 100000) : -(2 ^ 60) ≤ dw p q c g r ∧ dw p q c g r ≤ 2 ^ 60 := by
  have a := Int.ediv_le_self g (show 0 ≤ p by omega)
  have b := Int.ediv_le_self g (show 0 ≤ q by omega)
  have a0 : 0 ≤ p / g := Int.ediv_nonneg (by omega) (by omega)
  have b0 : 0 ≤ q / g := Int.ediv_nonneg (by omega) (by omega)
  unfold dw
  split
  · omega
  · split <;> omega
theorem pa_lc {a b : D} {g : Int} {f : Int → D} (hs : decide (Small g ∧ g ≤ 16777216) = true) (h : doC (C L n) (.bin .mul (.call 16 (.cons (.var 0) (.cons (.var 2) (.cons (.var 4) .nil))) []) (.call 16 (.cons (.var 1) (.cons (.var 2) (.cons (.var 4) .nil))) [])) (.nm 4) (.cst (.bl true)) [4] (rangeD 0 g.toNat) [.val a, .val b, .val (.int g), .nil, .nil] [] = some ((restsTo g).map f, [.val a, .val b, .val (.int g), .nil, .nil])) :
    evalE (C L n) (.lc (.bin .mul (.call 16 (.cons (.var 0) (.cons (.var 2) (.cons (.var 4) .nil))) []) (.call 16 (.cons (.var 1) (.cons (.var 2) (.cons (.var 4) .nil))) [])) (.nm 4) (.rg1 (.var 2)) (.cst (.bl true)) [4]) [.val a, .val b, .val (.int g), .nil, .nil] = some (.own ((restsTo g).map f), [.val a, .val b, .val (.int g), .nil, .nil]) := by
  simp_arith [hs, h]
theorem s_periodAmong {m p q c p' q' c' : Int} (G : GW m p q c) (G' : GW m p' q' c') (hL : 200000 < L) :
    C L (n+2) 17 [.val (W p q c), .val (W p' q' c')] = some (.val (.tup [.int (p * p' / (Int.gcd p p' : Int)), .int (sumDw p q c p' q' c' (Int.gcd p p'))]), []) := by
  have g1 := G.p1; have g2 := G.p2; have k1 := G'.p1; have k2 := G'.p2; have g7 := G.m2
  have g3 := G.q1; have g4 := G.q2; have k3 := G'.q1; have k4 := G'.q2
  have hg := s_gcd (L := L) (n := n) (a := p) (b := p') (by omega) (by omega)
  have hm := gcd_pos (p' := p') g1
  have hle : (Int.gcd p p' : Int) ≤ p := Int.le_of_dvd (by omega) (Int.gcd_dvd_left p p')
  rw [call_to (d := b83d17) rfl]
  simp only [b83d17, b83period_among]
  unfold sumDw
  generalize (Int.gcd p p' : Int) = g at *
  have hs : decide (Small g ∧ g ≤ 16777216) = true := decide_eq_true ⟨⟨by omega, by omega⟩, by omega⟩
  have hr : rangeD 0 g.toNat = (restsTo g).map D.int := rangeD_up _ _
  have hlc := doC_ints (cl := C L (n+1)) (elt := .bin .mul (.call 16 (.cons (.var 0) (.cons (.var 2) (.cons (.var 4) .nil))) []) (.call 16 (.cons (.var 1) (.cons (.var 2) (.cons (.var 4) .nil))) [])) (t := .nm 4) (cond := .cst (.bl true)) (vs := [4])
    (env := [.val (W p q c), .val (W p' q' c'), .val (.int g), .nil, .nil]) (fun _ => true) (fun r => .int (dw p q c g r * dw p' q' c' g r)) (restsTo g) (fun r hr => by
      have d1 := s_daysWith (L := L) (n := n) (p := p) (q := q) (c := c) (m := g) (r := r) (by omega) hm (by omega)
      have d2 := s_daysWith (L := L) (n := n) (p := p') (q := q') (c := c') (m := g) (r := r) (by omega) hm (by omega)
      have hmm : MulOk (dw p q c g r) (dw p' q' c' g r) := mulS (dw_le (by omega) (by omega) hm (by omega))
      unfold stepC
      simp_arith [d1, d2, decide_eq_true hmm])
  rw [List.filter_eq_self.mpr (fun _ _ => rfl)] at hlc
  have hsum := sum_ints (xs := (restsTo g).map fun r => dw p q c g r * dw p' q' c' g r)
  rw [List.map_map] at hsum
  have hmm : MulOk p p' := mulS (by omega)
  have hd : DivOk g := divOk_of hm (by omega)
  have hfn : (D.int ∘ fun r => dw p q c g r * dw p' q' c' g r) = fun r => D.int (dw p q c g r * dw p' q' c' g r) := rfl
  rw [hfn] at hsum
  rw [← hr] at hlc
  have h3 := pa_lc hs hlc
  rw [W] at h3
  generalize hlcE : CE.lc _ _ _ _ _ = lc at h3 ⊢
  simp_arith [hg, h3, hsum, decide_eq_true hmm, fdiv_int hd]
theorem s_together {p q c p' q' c' : Int} (G : GW 100000 p q c) (G' : GW 100000 p' q' c') (hL : 200000 < L) :
    C L (n+6) 18 [.val (W p q c), .val (W p' q' c')] = some (.val (.tup [.int (p * p' / (Int.gcd p p' : Int)), .int (sumDw p q c p' q' c' (Int.gcd p p'))]), []) := by
  have hk := s_checkPair (L := L) (n := n) G G' (by omega)
  have hp := s_periodAmong (L := L) (n := n + 3) G G' hL
  rw [call_to (d := b83d18) rfl]
  simp only [b83d18, b83together_period]
  simp_arith [hk, hp]
end
end K83

-- K83P3
set_option maxHeartbeats 4000000
namespace K83
open PySem Pi
theorem max_int {i j : Int} : evalBI .max [.int i, .int j] = some (.val (.int (if j > i then j else i))) := rfl
theorem tuple_ls {ds : List D} : evalBI .tuple [.ls ds] = some (.val (.tup ds)) := rfl
abbrev cdays (p q c p' q' c' : Int) (lo : Int) (n : Nat) : List Int := (upI lo n).filter (hits p q c p' q' c')
theorem evs_t {p q c p' q' c' d : Int} (hp : 0 < p) (hq : 0 < q) (hp' : 0 < p') (hq' : 0 < q') : (if (ev p q c d != 0) = true then (ev p' q' c' d != 0) else false) = hits p q c p' q' c' d := by
  rw [ev_ne hp hq, ev_ne hp' hq']
  unfold hits
  cases H p q c d <;> simp
section
variable {L n : Nat}
theorem s_checkSpan {a b : Int} (h1 : -(10 ^ 15) ≤ a) (h2 : a ≤ 10 ^ 15) (h3 : a - 1 ≤ b) (h4 : b ≤ a + 9999) (h5 : -(10 ^ 15) ≤ b) (h6 : b ≤ 10 ^ 15) : C L (n+5) 21 [.val (.int a), .val (.int b)] = some (.val .non, []) := by
  have e1 := s_checkDay (L := L) (n := n) (x := a) (nm := .str "first") h1 h2
  have e2 := s_check (L := L) (n := n + 1) (x := b) (a := a - 1) (b := a + 10000 - 1) (nm := .str "last") h3 (by omega)
  have e3 := s_checkDay (L := L) (n := n) (x := b) (nm := .str "last") h5 h6
  rw [call_to (d := b83d21) rfl]
  simp only [b83d21, b83check_span]
  simp_arith [e1, e2, e3]
theorem bothIn_lc {a b c' d' e' : D} {p q c p' q' cc lo hi : Int} {n k : Nat} (hp : 0 < p ∧ p ≤ 100000) (hq : 0 < q ∧ q ≤ 100000) (hp' : 0 < p' ∧ p' ≤ 100000) (hq' : 0 < q' ∧ q' ≤ 100000) (xs : List Int) :
    doC (C L (n+1)) (.var 4) (.nm 4) (.and (.call 22 (.cons (.var 0) (.cons (.var 4) .nil)) []) (.call 22 (.cons (.var 1) (.cons (.var 4) .nil)) [])) [4] (xs.map D.int) [.val (W p q c), .val (W p' q' cc), .val c', .val d', .nil] [] = some ((xs.filter (hits p q c p' q' cc)).map D.int, [.val (W p q c), .val (W p' q' cc), .val c', .val d', .nil]) :=
  doC_ints _ _ xs fun x hx => by
    have h1 := s_eventsOn (L := L) (n := n) (p := p) (q := q) (c := c) (d := x) (by omega) hp.1 hp.2
    have h2 := s_eventsOn (L := L) (n := n) (p := p') (q := q') (c := cc) (d := x) (by omega) hp'.1 hp'.2
    have e := evs_t (c := c) (c' := cc) (d := x) hp.1 hq.1 hp'.1 hq'.1
    rw [← e]
    cases k1 : (ev p q c x != 0) <;> cases k2 : (ev p' q' cc x != 0) <;> (unfold stepC; simp_arith [h1, h2, k1, k2])
theorem smallR {a b : Int} (h1 : -(10 ^ 17) ≤ a) (h2 : a ≤ 10 ^ 17) (h3 : -(10 ^ 17) ≤ b) (h4 : b ≤ 10 ^ 17) (h5 : b - a ≤ 1000000) : decide (Small a ∧ Small b ∧ b - a ≤ 16777216) = true :=
  decide_eq_true ⟨⟨by omega, by omega⟩, ⟨by omega, by omega⟩, by omega⟩
theorem s_bothIn {p q c p' q' c' a b : Int} (G : GW 300 p q c) (G' : GW 300 p' q' c') (hL : 200000 < L) (h1 : -(10 ^ 15) ≤ a) (h2 : a ≤ 10 ^ 15) (h3 : a - 1 ≤ b) (h4 : b ≤ a + 9999) (h5 : -(10 ^ 15) ≤ b) (h6 : b ≤ 10 ^ 15) :
    C L (n+6) 23 [.val (W p q c), .val (W p' q' c'), .val (.int a), .val (.int b)] = some (.val (.tup ((cdays p q c p' q' c' a (b + 1 - a).toNat).map D.int)), []) := by
  have g1 := G.p1; have g2 := G.p2; have k1 := G'.p1; have k2 := G'.p2
  have g3 := G.q1; have g4 := G.q2; have k3 := G'.q1; have k4 := G'.q2
  have hk := s_checkPair (L := L) (n := n) G G' (by omega)
  have hs := s_checkSpan (L := L) (n := n) h1 h2 h3 h4 h5 h6
  have hr := smallR (a := a) (b := b + 1) (by omega) (by omega) (by omega) (by omega) (by omega)
  have hlc := bothIn_lc (L := L) (n := n + 4) (c' := .int a) (d' := .int b) (a := .non) (b := .non) (e' := .non) (lo := 0) (hi := 0) (k := 0) (p := p) (q := q) (c := c) (p' := p') (q' := q') (cc := c') (by omega) (by omega) (by omega) (by omega) (upI a (b + 1 - a).toNat)
  rw [← rangeD_up] at hlc
  rw [call_to (d := b83d23) rfl]
  simp only [b83d23, b83both_in]
  simp_arith [hk, hs, hr, hlc, tuple_ls]
theorem s_merged {p q c p' q' c' a b : Int} (G : GW 300 p q c) (G' : GW 300 p' q' c') (hL : 200000 < L) (h1 : -(10 ^ 15) ≤ a) (h2 : a ≤ 10 ^ 15) (h3 : a - 1 ≤ b) (h4 : b ≤ a + 9999) (h5 : -(10 ^ 15) ≤ b) (h6 : b ≤ 10 ^ 15) :
    C L (n+6) 25 [.val (W p q c), .val (W p' q' c'), .val (.int a), .val (.int b)] = some (.val (.tup (((upI a (b + 1 - a).toNat).filter fun d => decide (0 < ev p q c d + ev p' q' c' d)).map fun d => .tup [.int d, .int (ev p q c d), .int (ev p' q' c' d)])), []) := by
  have g1 := G.p1; have g2 := G.p2; have k1 := G'.p1; have k2 := G'.p2
  have g3 := G.q1; have g4 := G.q2; have k3 := G'.q1; have k4 := G'.q2
  have hk := s_checkPair (L := L) (n := n) G G' (by omega)
  have hs := s_checkSpan (L := L) (n := n) h1 h2 h3 h4 h5 h6
  have hr := smallR (a := a) (b := b + 1) (by omega) (by omega) (by omega) (by omega) (by omega)
  have hlc := doC_ints (cl := C L (n+5)) (elt := .tup (.cons (.var 5) (.cons (.call 22 (.cons (.var 0) (.cons (.var 5) .nil)) []) (.cons (.call 22 (.cons (.var 1) (.cons (.var 5) .nil)) []) .nil)))) (t := .nm 5) (cond := .cst (.bl true)) (vs := [5])
    (env := [.val (W p q c), .val (W p' q' c'), .val (.int a), .val (.int b), .nil, .nil, .nil]) (fun _ => true) (fun d => .tup [.int d, .int (ev p q c d), .int (ev p' q' c' d)]) (upI a (b + 1 - a).toNat) (fun x hx => by
      have e1 := s_eventsOn (L := L) (n := n + 4) (p := p) (q := q) (c := c) (d := x) (by omega) (by omega) (by omega)
      have e2 := s_eventsOn (L := L) (n := n + 4) (p := p') (q := q') (c := c') (d := x) (by omega) (by omega) (by omega)
      unfold stepC
      simp_arith [e1, e2])
  rw [List.filter_eq_self.mpr (fun _ _ => rfl), ← rangeD_up] at hlc
  generalize upI a (b + 1 - a).toNat = xs at *
  have hlc2 := doC_pure (cl := C L (n+5)) (elt := .var 6) (t := .nm 6) (cond := .cmp .gt (.bin .add (.ixv 6 (.cst (.int (1)))) (.ixv 6 (.cst (.int (2))))) (.cst (.int (0)))) (vs := [6])
    (env := [.val (W p q c), .val (W p' q' c'), .val (.int a), .val (.int b), .val (.ls (xs.map fun d => .tup [.int d, .int (ev p q c d), .int (ev p' q' c' d)])), .nil, .nil])
    (fun x => match x with | .tup [.int d, .int y, .int z] => if decide (0 < y + z) = true then some (.tup [.int d, .int y, .int z]) else none | _ => none)
    (xs.map fun d => .tup [.int d, .int (ev p q c d), .int (ev p' q' c' d)]) [] (fun x hx => by
      obtain ⟨d, _, rfl⟩ := List.mem_map.mp hx
      cases k : decide (0 < ev p q c d + ev p' q' c' d) <;> (unfold stepC; simp_arith [k]))
  have hf : (xs.map fun d => D.tup [.int d, .int (ev p q c d), .int (ev p' q' c' d)]).filterMap (fun x : D => match x with | D.tup [D.int d, D.int y, D.int z] => if decide (0 < y + z) = true then some (D.tup [.int d, .int y, .int z]) else none | _ => none) = (xs.filter fun d => decide (0 < ev p q c d + ev p' q' c' d)).map fun d => D.tup [.int d, .int (ev p q c d), .int (ev p' q' c' d)] := by
    clear hlc2 hlc
    induction xs with
    | nil => rfl
    | cons x xs ih =>
      rw [List.map_cons, List.filterMap_cons, List.filter_cons]
      cases k : decide (0 < ev p q c x + ev p' q' c' x)
      · simp only [k]
        exact ih
      · simp only [k, if_true]
        rw [ih]
        rfl
  rw [hf, List.nil_append] at hlc2
  rw [call_to (d := b83d25) rfl]
  simp only [b83d25, b83merged]
  generalize (xs.map fun d => D.tup [.int d, .int (ev p q c d), .int (ev p' q' c' d)]) = ys at *
  generalize ((xs.filter fun d => decide (0 < ev p q c d + ev p' q' c' d)).map fun d => D.tup [.int d, .int (ev p q c d), .int (ev p' q' c' d)]) = zs at *
  simp_arith [hk, hs, hr, hlc, hlc2, tuple_ls]
end
def nx (p q c d : Int) : Int := (p * (-((c - q * d) / p)) + c) / q
theorem nx_ok {p q c d : Int} (hp : 0 < p) (hq : 0 < q) : d ≤ nx p q c d ∧ H p q c (nx p q c d) = true ∧ ∀ y, d ≤ y → y < nx p q c d → H p q c y = false := by
  unfold nx
  have e1 := Int.emod_add_mul_ediv (c - q * d) p
  have r0 := Int.emod_nonneg (c - q * d) (show p ≠ 0 by omega)
  have r1 := Int.emod_lt_of_pos (c - q * d) hp
  generalize hk : (c - q * d) / p = k at *
  have v1 : q * d ≤ p * (-k) + c := by rw [Int.mul_neg]; omega
  have v2 : p * (-k) + c < q * d + p := by rw [Int.mul_neg]; omega
  generalize hv : p * (-k) + c = v at *
  have f1 := Int.emod_add_mul_ediv v q
  have s0 := Int.emod_nonneg v (show q ≠ 0 by omega)
  have s1 := Int.emod_lt_of_pos v hq
  generalize hx : v / q = x at *
  refine ⟨?_, ?_, fun y y0 y1 => ?_⟩
  · rw [← hx, Int.le_ediv_iff_mul_le hq, Int.mul_comm]; exact v1
  · unfold H
    apply decide_eq_true
    have a : (q * x + q - 1 - c) % p = (q * x + q - 1 - v) % p := emod_cong ⟨-k, by rw [← hv]; omega⟩
    rw [a]
    have a0 : 0 ≤ q * x + q - 1 - v := by omega
    have z1 := Int.emod_add_mul_ediv (q * x + q - 1 - v) p
    have z2 := Int.mul_nonneg (show 0 ≤ p by omega) (Int.ediv_nonneg a0 (show 0 ≤ p by omega))
    omega
  · unfold H
    apply decide_eq_false
    intro h
    have b0 := Int.emod_nonneg (q * y + q - 1 - c) (show p ≠ 0 by omega)
    have b1 := Int.emod_add_mul_ediv (q * y + q - 1 - c) p
    generalize (q * y + q - 1 - c) / p = e' at *
    generalize (q * y + q - 1 - c) % p = w at *
    have c1 : q * d ≤ q * y := Int.mul_le_mul_of_nonneg_left y0 (by omega)
    have c2 : q * (y + 1) ≤ q * x := Int.mul_le_mul_of_nonneg_left (by omega) (by omega)
    rw [Int.mul_add, Int.mul_one] at c2
    have c3 : ¬ (e' ≤ -k - 1) := fun z => by
      have := Int.mul_le_mul_of_nonneg_left z (show 0 ≤ p by omega)
      rw [Int.mul_sub, Int.mul_one] at this
      omega
    have := Int.mul_le_mul_of_nonneg_left (show -k ≤ e' by omega) (show 0 ≤ p by omega)
    omega
end K83

-- K83P4
set_option maxHeartbeats 4000000
namespace K83
open PySem Pi
theorem up_succ (lo : Int) (n : Nat) : upI lo (n + 1) = upI lo n ++ [lo + (n : Int)] := by
  unfold upI
  rw [List.range_succ, List.map_append]
  rfl
theorem cdays_len {p q c p' q' c' lo : Int} : ∀ n : Nat, (cdays p q c p' q' c' lo n).length = sm n (fun k => ind (hits p q c p' q' c' (lo + (k : Int))))
  | 0 => rfl
  | n + 1 => by
    unfold cdays
    rw [up_succ, List.filter_append, List.length_append]
    show _ = sm n _ + ind (hits p q c p' q' c' (lo + (n : Int)))
    rw [← cdays_len n]
    congr 1
    cases h : hits p q c p' q' c' (lo + (n : Int)) <;> simp [h, ind]
theorem sum_up (f : Int → Nat) : ∀ n : Nat, ((upI 0 n).map fun r => (f r : Int)).sum = (sm n (fun k => f (k : Int)) : Int)
  | 0 => rfl
  | n + 1 => by
    rw [up_succ, List.map_append, List.sum_append, sum_up f n]
    show _ + (((f (0 + (n : Int)) : Nat) : Int) + 0) = ((sm n _ + f (n : Int) : Nat) : Int)
    rw [Int.zero_add]
    omega
structure Pr (p q c p' q' c' P M : Int) : Prop where
  pos : 0 < P
  le : P ≤ p * p'
  d1 : p ∣ P
  d2 : p' ∣ P
  cnt : M = (sm P.toNat (fun k => ind (hits p q c p' q' c' (k : Int))) : Int)
theorem pr_of {p q c p' q' c' : Int} (hp : 0 < p) (hp' : 0 < p') (hq : 0 < q) (hq' : 0 < q') (h1 : Int.gcd p q = 1) (h2 : Int.gcd p' q' = 1) : Pr p q c p' q' c' (p * p' / (Int.gcd p p' : Int)) (sumDw p q c p' q' c' (Int.gcd p p')) := by
  have hg := gcd_pos (p := p) (p' := p') (by omega)
  have dp := Int.gcd_dvd_left p p'
  have dp' := Int.gcd_dvd_right p p'
  have hcop : Int.gcd (p / (Int.gcd p p' : Int)) (p' / (Int.gcd p p' : Int)) = 1 := Int.gcd_ediv_gcd_ediv_gcd (by omega)
  generalize (Int.gcd p p' : Int) = g at *
  have e : p * p' / g = p * (p' / g) := Int.mul_ediv_assoc _ dp'
  have m0 : 0 < p' / g := Int.ediv_pos_of_pos_of_dvd (by omega) (by omega) dp'
  have m1 : p' / g ≤ p' := Int.ediv_le_self _ (by omega)
  have e2 : g * (p' / g) = p' := Int.mul_ediv_cancel' dp'
  have e1 : g * (p / g) = p := Int.mul_ediv_cancel' dp
  refine ⟨by rw [e]; exact Int.mul_pos hp m0, by rw [e]; exact Int.mul_le_mul_of_nonneg_left m1 (by omega), by rw [e]; exact Int.dvd_mul_right _ _, ?_, ?_⟩
  · rw [e]
    refine ⟨p / g, ?_⟩
    rw [← e2]
    have : p = g * (p / g) := e1.symm
    rw [this]
    generalize p / g = a at *
    have hg' : g * (p' / g) / g = p' / g := by rw [e2]
    rw [hg', Int.mul_ediv_cancel_left _ (show g ≠ 0 by omega)]
    grind
  · rw [e, crt hp hp' hg dp dp' hcop]
    unfold sumDw many restsTo
    rw [← sum_up (fun r => S p q c g r * S p' q' c' g r)]
    congr 1
    apply List.map_congr_left
    intro r _
    rw [Int.natCast_mul, S_dw hp hq hg dp h1, S_dw hp' hq' hg dp' h2]
theorem Pr.wins {p q c p' q' c' P M : Int} (R : Pr p q c p' q' c' P M) (w : Int) (n : Nat) : (sm n (fun k => ind (hits p q c p' q' c' (w + (k : Int)))) : Int) = (n : Int) / P * M + (sm ((n : Int) % P).toNat (fun k => ind (hits p q c p' q' c' (w + (k : Int)))) : Int) := by
  have hp := R.pos
  have a := Int.emod_add_mul_ediv (n : Int) P
  have r0 := Int.emod_nonneg (n : Int) (show P ≠ 0 by omega)
  have t0 : 0 ≤ (n : Int) / P := Int.ediv_nonneg (by omega) (by omega)
  have hP : ((P.toNat : Nat) : Int) = P := by omega
  have en : n = ((n : Int) % P).toNat + ((n : Int) / P).toNat * P.toNat := by
    have : (((n : Int) / P).toNat * P.toNat : Nat) = ((n : Int) / P * P).toNat := by rw [Int.toNat_mul t0 (by omega)]
    rw [this, Int.mul_comm]
    have : 0 ≤ P * ((n : Int) / P) := Int.mul_nonneg (by omega) t0
    omega
  have win := sm_wins (f := fun x => ind (hits p q c p' q' c' x)) (P := P.toNat) (by omega) (fun x y h => hits_per R.d1 R.d2 x y (by rw [← hP]; exact h)) w ((n : Int) % P).toNat ((n : Int) / P).toNat
  rw [← en] at win
  rw [win, R.cnt, Int.natCast_add, Int.natCast_mul]
  congr 2
  omega
theorem mul300 {p p' : Int} (h : 1 ≤ p ∧ p ≤ 300) (h' : 1 ≤ p' ∧ p' ≤ 300) : p * p' ≤ 90000 := by
  have : p * p' ≤ 300 * 300 := Int.mul_le_mul h.2 h'.2 (by omega) (by omega)
  omega
section
variable {L n : Nat}
theorem count_lc {a b : Int} {P M t r : D} {p q c p' q' cc : Int} (hp : 0 < p ∧ p ≤ 100000) (hq : 0 < q ∧ q ≤ 100000) (hp' : 0 < p' ∧ p' ≤ 100000) (hq' : 0 < q' ∧ q' ≤ 100000) (xs : List Int) :
    doC (C L (n+1)) (.var 9) (.nm 9) (.and (.call 22 (.cons (.var 0) (.cons (.var 9) .nil)) []) (.call 22 (.cons (.var 1) (.cons (.var 9) .nil)) [])) [9] (xs.map D.int) [.val (W p q c), .val (W p' q' cc), .val (.int a), .val (.int b), .val P, .val M, .val t, .val r, .nil, .nil] [] = some ((xs.filter (hits p q c p' q' cc)).map D.int, [.val (W p q c), .val (W p' q' cc), .val (.int a), .val (.int b), .val P, .val M, .val t, .val r, .nil, .nil]) :=
  doC_ints _ _ xs fun x hx => by
    have h1 := s_eventsOn (L := L) (n := n) (p := p) (q := q) (c := c) (d := x) (by omega) hp.1 hp.2
    have h2 := s_eventsOn (L := L) (n := n) (p := p') (q := q') (c := cc) (d := x) (by omega) hp'.1 hp'.2
    have e := evs_t (c := c) (c' := cc) (d := x) hp.1 hq.1 hp'.1 hq'.1
    rw [← e]
    cases k1 : (ev p q c x != 0) <;> cases k2 : (ev p' q' cc x != 0) <;> (unfold stepC; simp_arith [h1, h2, k1, k2])
theorem s_countBoth {p q c p' q' c' a b : Int} (G : GW 300 p q c) (G' : GW 300 p' q' c') (hL : 200000 < L) (h1 : -(10 ^ 15) ≤ a) (h2 : a ≤ 10 ^ 15) (h5 : -(10 ^ 15) ≤ b) (h6 : b ≤ 10 ^ 15) :
    C L (n+6) 26 [.val (W p q c), .val (W p' q' c'), .val (.int a), .val (.int b)] = some (.val (.int ((cdays p q c p' q' c' a (b + 1 - a).toNat).length)), []) := by
  have g1 := G.p1; have g2 := G.p2; have k1 := G'.p1; have k2 := G'.p2
  have g3 := G.q1; have g4 := G.q2; have k3 := G'.q1; have k4 := G'.q2
  have hk := s_checkPair (L := L) (n := n) G G' (by omega)
  have e1 := s_checkDay (L := L) (n := n + 1) (x := a) (nm := .str "first") h1 h2
  have e2 := s_checkDay (L := L) (n := n + 1) (x := b) (nm := .str "last") h5 h6
  have hp := s_periodAmong (L := L) (n := n + 3) G G' hL
  have R := pr_of (p := p) (q := q) (c := c) (p' := p') (q' := q') (c' := c') (by omega) (by omega) (by omega) (by omega) G.g G'.g
  have hmax := mul300 (p := p) (p' := p') (by omega) (by omega)
  rw [call_to (d := b83d26) rfl]
  simp only [b83d26, b83count_both]
  by_cases hlt : b < a
  · have e : (b + 1 - a).toNat = 0 := by omega
    rw [e]
    simp_arith [hk, e1, e2, decide_eq_true hlt]
    rfl
  · generalize p * p' / (Int.gcd p p' : Int) = P at *
    generalize sumDw p q c p' q' c' (Int.gcd p p') = M at *
    have P0 := R.pos
    have P1 := R.le
    have hw := R.wins a (b + 1 - a).toNat
    rw [← cdays_len, ← cdays_len] at hw
    have en : (((b + 1 - a).toNat : Nat) : Int) = b - a + 1 := by omega
    rw [en] at hw
    have r0 := Int.emod_nonneg (b - a + 1) (show P ≠ 0 by omega)
    have r1 := Int.emod_lt_of_pos (b - a + 1) P0
    have t0 : 0 ≤ (b - a + 1) / P := Int.ediv_nonneg (by omega) (by omega)
    have t1 : (b - a + 1) / P ≤ b - a + 1 := Int.ediv_le_self _ (by omega)
    have hm : Pi.MulOk ((b - a + 1) / P) M := mulS (by omega)
    have hr := smallR (a := a) (b := a + (b - a + 1) % P) (by omega) (by omega) (by omega) (by omega) (by omega)
    have hlc := count_lc (L := L) (n := n + 4) (a := a) (b := b) (P := .int P) (M := .int M) (t := .int ((b - a + 1) / P)) (r := .int ((b - a + 1) % P)) (p := p) (q := q) (c := c) (p' := p') (q' := q') (cc := c') (by omega) (by omega) (by omega) (by omega) (upI a ((b - a + 1) % P).toNat)
    rw [← rangeD_up] at hlc
    have er : (a + (b - a + 1) % P - a).toNat = ((b - a + 1) % P).toNat := by
      congr 1
      omega
    rw [hw]
    simp_arith [hk, e1, e2, decide_eq_false hlt, hp, fdiv_int (divOk_of P0 (by omega)), mod_int P0, hr, er, hlc, decide_eq_true hm, List.length_map]
theorem least_ex {f : Int → Bool} : ∀ (m : Nat) (a b : Int), a ≤ b → (b - a).toNat = m → f b = true → ∃ T, a ≤ T ∧ T ≤ b ∧ f T = true ∧ ∀ y, a ≤ y → y < T → f y = false
  | 0, a, b, h, hm, hf => ⟨b, h, Int.le_refl _, hf, fun y h1 h2 => by omega⟩
  | m + 1, a, b, h, hm, hf => by
    by_cases h0 : f a = true
    · exact ⟨a, Int.le_refl _, h, h0, fun y h1 h2 => by omega⟩
    · obtain ⟨T, q1, q2, q3, q4⟩ := least_ex m (a + 1) b (by omega) (by omega) hf
      refine ⟨T, by omega, q2, q3, fun y h1 h2 => ?_⟩
      by_cases e : y = a
      · subst e; simpa using h0
      · exact q4 y (by omega) h2
def nextB : CSs := (.cons (.asg (.nm 3) (.call 8 (.cons (.var 0) (.cons (.call 11 (.cons (.var 0) (.cons (.var 2) .nil)) []) .nil)) [])) (.cons (.asg (.nm 4) (.call 8 (.cons (.var 1) (.cons (.call 11 (.cons (.var 1) (.cons (.bi .max (.cons (.var 2) (.cons (.var 3) .nil))) .nil)) []) .nil)) [])) (.cons (.ife (.and (.cmp .ge (.var 3) (.var 2)) (.cmp .eq (.var 3) (.var 4))) (.cons (.retv 3) .nil) .nil) (.cons (.asg (.nm 2) (.bi .max (.cons (.var 3) (.cons (.var 4) .nil)))) .nil))))
theorem s_nx {p q c d : Int} (hp : 0 < p ∧ p ≤ 100000) (hq : 0 < q ∧ q ≤ 100000) : ∃ e : Int, C L (n+1) 11 [.val (W p q c), .val (.int d)] = some (.val (.int e), []) ∧ C L (n+1) 8 [.val (W p q c), .val (.int e)] = some (.val (.int (nx p q c d)), []) :=
  ⟨_, s_firstEvent (mulS (by omega)) (divOk_of hp.1 (by omega)), s_dayAmong (mulS (by omega)) (divOk_of hq.1 (by omega))⟩
theorem next_loop {p q c p' q' c' T : Int} (hp : 0 < p ∧ p ≤ 100000) (hq : 0 < q ∧ q ≤ 100000) (hp' : 0 < p' ∧ p' ≤ 100000) (hq' : 0 < q' ∧ q' ≤ 100000) (hT : hits p q c p' q' c' T = true) :
    ∀ (m : Nat) (d : Int) (s3 s4 : Slot), nio s3 = true → nio s4 = true → d ≤ T → (T - d).toNat < m → (∀ y, d ≤ y → y < T → hits p q c p' q' c' y = false) →
    ∃ e : En, doW (C L (n+1)) L (.cst (.bl true)) nextB m [.val (W p q c), .val (W p' q' c'), .val (.int d), s3, s4] = some (.rt (.val (.int T)) e) ∧ outsOf [false, false, false] e = some []
  | 0, d, s3, s4, h3, h4, hd, hm, hn => by omega
  | m + 1, d, s3, s4, h3, h4, hd, hm, hn => by
    have tt := hT
    unfold hits at tt
    rw [Bool.and_eq_true] at tt
    obtain ⟨e1, a1, a2⟩ := s_nx (L := L) (n := n) (p := p) (q := q) (c := c) (d := d) hp hq
    obtain ⟨n1, n2, n3⟩ := nx_ok (p := p) (q := q) (c := c) (d := d) hp.1 hq.1
    generalize nx p q c d = here at *
    have hT1 : here ≤ T := by
      rcases Int.lt_or_le T here with h | h
      · have := n3 T hd h
        rw [tt.1] at this; cases this
      · exact h
    obtain ⟨e2, b1, b2⟩ := s_nx (L := L) (n := n) (p := p') (q := q') (c := c') (d := here) hp' hq'
    obtain ⟨m1, m2, m3⟩ := nx_ok (p := p') (q := q') (c := c') (d := here) hp'.1 hq'.1
    generalize nx p' q' c' here = there at *
    have hT2 : there ≤ T := by
      rcases Int.lt_or_le T there with h | h
      · have := m3 T hT1 h
        rw [tt.2] at this; cases this
      · exact h
    have hmx : (if here > d then here else d) = here := by split <;> omega
    rw [w_succ]
    by_cases heq : here = there
    · have : here = T := by
        rcases Int.lt_or_le here T with h | h
        · have := hn here n1 h
          unfold hits at this
          rw [n2, heq, m2] at this
          cases this
        · omega
      subst heq
      subst this
      refine ⟨[.val (W p q c), .val (W p' q' c'), .val (.int d), .val (.int here), .val (.int here)], ?_, rfl⟩
      unfold nextB
      simp_arith [a1, a2, max_int, hmx, b1, b2, h3, h4, decide_eq_true n1]
    · have hb : (here == there) = false := by simpa using heq
      have hmx2 : (if there > here then there else here) = there := by split <;> omega
      obtain ⟨e, q1, q2⟩ := next_loop hp hq hp' hq' hT m there (.val (.int here)) (.val (.int there)) rfl rfl hT2 (by omega) fun y h1 h2 => hn y (by omega) h2
      refine ⟨e, ?_, q2⟩
      rw [← q1]
      unfold nextB
      simp_arith [a1, a2, max_int, hmx, b1, b2, h3, h4, decide_eq_true n1, hb, hmx2]
end
inductive NextIs (p q c p' q' c' : Int) (a : Int) : D → Prop where
  | none : (∀ y, hits p q c p' q' c' y = false) → NextIs p q c p' q' c' a .non
  | some (T : Int) : a ≤ T → T ≤ a + 90000 → hits p q c p' q' c' T = true → (∀ y, a ≤ y → y < T → hits p q c p' q' c' y = false) → NextIs p q c p' q' c' a (.int T)
theorem no_common {p q c p' q' c' : Int} (hp : 0 < p) (hp' : 0 < p') (hq : 0 < q) (hq' : 0 < q') (h : firstR (comR q c q' c' (Int.gcd p p')) (restsTo (Int.gcd p p')) = none) (y : Int) : hits p q c p' q' c' y = false := by
  have hg := gcd_pos (p := p) (p' := p') (by omega)
  have dp := Int.gcd_dvd_left p p'
  have dp' := Int.gcd_dvd_right p p'
  generalize (Int.gcd p p' : Int) = g at *
  have z0 := Int.emod_nonneg y (show g ≠ 0 by omega)
  have z1 := Int.emod_lt_of_pos y hg
  have hr := firstR_none h (y % g) (mem_up.mpr ⟨z0, by omega⟩)
  have gen : ∀ {p q c : Int}, 0 < p → 0 < q → g ∣ p → H p q c y = true → H g q c (y % g) = true := fun {p q c} hp hq dp hh => by
    rw [H_mod (p := g) (d' := y) (by
      have := Int.dvd_self_sub_emod (x := y) (m := g)
      have e : y % g - y = -(y - y % g) := by omega
      rw [e]; exact Int.dvd_neg.mpr this)]
    unfold H at hh ⊢
    have h1 := of_decide_eq_true hh
    apply decide_eq_true
    have e := Int.emod_emod_of_dvd (q * y + q - 1 - c) dp
    rw [← e]
    have a0 := Int.emod_nonneg (q * y + q - 1 - c) (show p ≠ 0 by omega)
    have z1 := Int.emod_add_mul_ediv ((q * y + q - 1 - c) % p) g
    have z2 := Int.mul_nonneg (show 0 ≤ g by omega) (Int.ediv_nonneg a0 (show 0 ≤ g by omega))
    omega
  unfold hits
  cases h1 : H p q c y with
  | false => rfl
  | true =>
    cases h2 : H p' q' c' y with
    | false => rfl
    | true =>
      unfold comR at hr
      rw [gen hp hq dp h1, gen hp' hq' dp' h2] at hr
      cases hr
section
variable {L n : Nat}
theorem s_nextBoth {p q c p' q' c' a : Int} (G : GW 300 p q c) (G' : GW 300 p' q' c') (hL : 200000 < L) (h1 : -(10 ^ 15) ≤ a) (h2 : a ≤ 10 ^ 15) :
    ∃ r : D, C L (n+6) 24 [.val (W p q c), .val (W p' q' c'), .val (.int a)] = some (.val r, []) ∧ NextIs p q c p' q' c' a r := by
  have g1 := G.p1; have g2 := G.p2; have k1 := G'.p1; have k2 := G'.p2
  have g3 := G.q1; have g4 := G.q2; have k3 := G'.q1; have k4 := G'.q2
  have hk := s_checkPair (L := L) (n := n) G G' (by omega)
  have e1 := s_checkDay (L := L) (n := n + 1) (x := a) (nm := .str "day") h1 h2
  have hg := s_gcd (L := L) (n := n + 4) (a := p) (b := p') (by omega) (by omega)
  have hm := gcd_pos (p' := p') g1
  have hle : (Int.gcd p p' : Int) ≤ p := Int.le_of_dvd (by omega) (Int.gcd_dvd_left p p')
  have hc := s_commonRest (L := L) (n := n + 3) (p := p) (q := q) (c := c) (p' := p') (q' := q') (c' := c') (by omega) (by omega) hm (by omega)
  rw [call_to (d := b83d24) rfl]
  simp only [b83d24, b83next_both]
  cases hf : firstR (comR q c q' c' (Int.gcd p p')) (restsTo (Int.gcd p p')) with
  | none =>
    rw [hf] at hc
    refine ⟨.non, ?_, .none (no_common (by omega) (by omega) (by omega) (by omega) hf)⟩
    simp_arith [hk, e1, hg, hc]
  | some r =>
    rw [hf] at hc
    obtain ⟨hr1, hr2⟩ := firstR_some hf
    have hr := mem_rests hr1
    obtain ⟨d0, _, _, _, d3, d4⟩ := s_dayBoth (L := L) (n := n) G G' hr.1 hr.2 hr2 hL
    have R := pr_of (p := p) (q := q) (c := c) (p' := p') (q' := q') (c' := c') (by omega) (by omega) (by omega) (by omega) G.g G'.g
    have hmax := mul300 (p := p) (p' := p') (by omega) (by omega)
    have P0 := R.pos
    have P1 := R.le
    have D1 := R.d1
    have D2 := R.d2
    generalize p * p' / (Int.gcd p p' : Int) = P at *
    have z0 := Int.emod_nonneg (d0 - a) (show P ≠ 0 by omega)
    have z1 := Int.emod_lt_of_pos (d0 - a) P0
    have zd : P ∣ (d0 - a) - (d0 - a) % P := Int.dvd_self_sub_emod
    have ht0 : hits p q c p' q' c' (a + (d0 - a) % P) = true := by
      have dd : P ∣ a + (d0 - a) % P - d0 := by
        have e : a + (d0 - a) % P - d0 = -((d0 - a) - (d0 - a) % P) := by omega
        rw [e]; exact Int.dvd_neg.mpr zd
      unfold hits
      rw [H_mod (Int.dvd_trans D1 dd), H_mod (p := p') (Int.dvd_trans D2 dd), d3, d4]
      rfl
    obtain ⟨T, t1, t2, t3, t4⟩ := least_ex _ a (a + (d0 - a) % P) (by omega) rfl ht0
    obtain ⟨e, q1, q2⟩ := next_loop (L := L) (n := n + 4) (p := p) (q := q) (c := c) (p' := p') (q' := q') (c' := c') (T := T) (by omega) (by omega) (by omega) (by omega) t3 L a .nil .nil rfl rfl t1 (by omega) t4
    refine ⟨.int T, ?_, .some T t1 (by omega) t3 t4⟩
    unfold nextB at q1
    simp_arith [hk, e1, hg, hc, q1, q2]
end
end K83

-- K83P5
set_option maxHeartbeats 4000000
namespace K83
open PySem Pi
theorem GW.mono {m m' p q c : Int} (G : GW m p q c) (h : m ≤ m') (h2 : m' ≤ 100000) : GW m' p q c := ⟨G.p1, by have := G.p2; omega, G.q1, by have := G.q2; omega, G.g, G.c1, G.c2, h2⟩
section
variable {L n : Nat}
theorem s_stream {ns : List Int} : C L (n+1) 27 [.val (.ls (ns.map D.int))] = some (.own [.ls (ns.map D.int), .int 0, .int 0], []) := by
  rw [call_to (d := b83d27) rfl]; exact run_stream
theorem s_nextN : Nexts (C L (n+1)) 28 := fun S many hS h0 h1 => by
  obtain ⟨r, S', e, q⟩ := run_next (cl := C L n) (L := L) hS h0 h1
  exact ⟨r, S', by rw [call_to (d := b83d28) rfl]; exact e, q⟩
theorem s_pick {S ds : List D} (hS : Strm S) (h0 : ds ≠ []) (h1 : ds.length < 1000000) : ∃ (x : D) (S' : List D), C L (n+2) 29 [.own S, .val (.ls ds)] = some (.val x, [S']) ∧ Strm S' ∧ x ∈ ds := by
  obtain ⟨x, S', e, q⟩ := run_pick (cl := C L (n+1)) (L := L) (jn := 28) s_nextN hS h0 h1
  exact ⟨x, S', by rw [call_to (d := b83d29) rfl]; exact e, q⟩
theorem s_plain {v : D} (h : v.nodes < 900000) (hf : v.fnless = true) : C L (n+1) 30 [.val v] = some (.val (.bl v.plain), []) := by
  rw [call_to (d := b83d30) rfl]; exact run_plain h hf
theorem s_equal {v : D} (h : v.nodes < 900000) (hf : v.fnless = true) (hp : v.plain = true) (hs : Shows v) : C L (n+2) 31 [.val v, .val v] = some (.val (.bl true), []) := by
  rw [call_to (d := b83d31) rfl]
  refine run_equal (jp := 30) ?_ hs
  rw [s_plain h hf, hp]
theorem s_equalInt {i : Int} (h : -(10 ^ 60) ≤ i ∧ i ≤ 10 ^ 60) : C L (n+2) 31 [.val (.int i), .val (.int i)] = some (.val (.bl true), []) := s_equal (by simp [D.nodes]) (by simp [D.fnless]) (by simp [D.plain]) (shows_int h)
theorem s_equalBl {b : Bool} : C L (n+2) 31 [.val (.bl b), .val (.bl b)] = some (.val (.bl true), []) := s_equal (by simp [D.nodes]) (by simp [D.fnless]) (by simp [D.plain]) shows_bl
theorem s_equalNon : C L (n+2) 31 [.val .non, .val .non] = some (.val (.bl true), []) := s_equal (by simp [D.nodes]) (by simp [D.fnless]) (by simp [D.plain]) shows_non
theorem s_whole {d : D} (h : noFn d = true) : C L (n+1) 32 [.val d] = some (.val (.bl (isInt d)), []) := by
  rw [call_to (d := b83d32) rfl]; exact run_isInt h
theorem s_divisor {a b : Int} (h0 : 0 ≤ b) (h1 : b < 2 ^ 250) : C L (n+1) 33 [.val (.int a), .val (.int b)] = some (.val (.int (Int.gcd a b)), []) := by
  rw [call_to (d := b83d33) rfl]; exact run_divisor h0 h1
theorem s_lowest {a b : Int} (a0 : 0 < a) (h0 : 0 < b) (h1 : b < 2 ^ 250) : C L (n+2) 34 [.val (.int a), .val (.int b)] = some (.val (.tup [.int (a / Int.gcd a b), .int (b / Int.gcd a b)]), []) := by
  rw [call_to (d := b83d34) rfl]; exact run_lowest (jd := 33) a0 h0 h1 (s_divisor (by omega) h1)
def pairB : CSs := (.cons (.asg (.tp [4, 5]) (.call 34 (.cons (.bin .add (.cst (.int (1))) (.call 28 (.cons (.io 0) (.cons (.var 1) .nil)) [])) (.cons (.bin .add (.cst (.int (1))) (.call 28 (.cons (.io 0) (.cons (.var 1) .nil)) [])) .nil)) [])) (.cons (.app 2 (.tup (.cons (.var 4) (.cons (.var 5) (.cons (.bin .sub (.call 28 (.cons (.io 0) (.cons (.bin .mul (.cst (.int (2))) (.var 1)) .nil)) []) (.var 1)) .nil))))) .nil))
theorem div_small {a g m : Int} (h0 : 0 < g) (h1 : 1 ≤ a) (h2 : a ≤ m) (hd : g ∣ a) : 1 ≤ a / g ∧ a / g ≤ m := by
  have := Int.ediv_pos_of_pos_of_dvd (show 0 < a by omega) (by omega) hd
  have := Int.ediv_le_self g (show 0 ≤ a by omega)
  omega
theorem pair_step {most : Int} (m1 : 1 ≤ most) (m2 : most ≤ 100000) {S : List D} {fd : List D} (x : D) (s3 s4 s5 : Slot) (hS : Strm S) (h3 : nio s3 = true) (h4 : nio s4 = true) (h5 : nio s5 = true) (hl : fd.length < 100) : ∃ (p q c : Int) (S' : List D) (s4' s5' : Slot), GW most p q c ∧ c ≤ 5000000 ∧ Strm S' ∧ nio s4' = true ∧ nio s5' = true ∧
    (bindO (bindTg (.nm 3) x [.io S, .val (.int most), .own fd, s3, s4, s5]) fun e => evalSs (C L (n+3)) L pairB e) = some (.nx [.io S', .val (.int most), .own (fd ++ [W p q c]), .val x, s4', s5']) := by
  obtain ⟨a, S1, a1, a2, a3, a4⟩ := s_nextN (L := L) (n := n + 2) S most hS (by omega) (by omega)
  obtain ⟨b, S2, b1, b2, b3, b4⟩ := s_nextN (L := L) (n := n + 2) S1 most a2 (by omega) (by omega)
  obtain ⟨c, S3, c1, c2, c3, c4⟩ := s_nextN (L := L) (n := n + 2) S2 (2 * most) b2 (by omega) (by omega)
  have hlow := s_lowest (L := L) (n := n + 1) (a := 1 + a) (b := 1 + b) (by omega) (by omega) (by
    have : (2 : Int) ^ 250 > 1000000 := by decide
    omega)
  have g0 := gcd_pos (p := 1 + a) (p' := 1 + b) (by omega)
  have hp := div_small g0 (show 1 ≤ 1 + a by omega) (show 1 + a ≤ most by omega) (Int.gcd_dvd_left _ _)
  have hq := div_small g0 (show 1 ≤ 1 + b by omega) (show 1 + b ≤ most by omega) (Int.gcd_dvd_right _ _)
  refine ⟨(1 + a) / Int.gcd (1 + a) (1 + b), (1 + b) / Int.gcd (1 + a) (1 + b), c - most, S3, .val (.int ((1 + a) / Int.gcd (1 + a) (1 + b))), .val (.int ((1 + b) / Int.gcd (1 + a) (1 + b))), ⟨hp.1, hp.2, hq.1, hq.2, ?_, by omega, by omega, m2⟩, by omega, c2, rfl, rfl, ?_⟩
  · exact Int.gcd_ediv_gcd_ediv_gcd (by omega)
  · have hm : Pi.MulOk 2 most := mulS (by omega)
    have hlen : decide (fd.length < 16777216) = true := decide_eq_true (by omega)
    unfold pairB
    simp_arith [h3, h4, h5, a1, b1, c1, hlow, decide_eq_true hm, hlen]
theorem s_pair {most : Int} (m1 : 1 ≤ most) (m2 : most ≤ 100000) {S : List D} (hS : Strm S) : ∃ (p q c p' q' c' : Int) (S' : List D), GW most p q c ∧ GW most p' q' c' ∧ (c ≤ 5000000 ∧ c' ≤ 5000000) ∧ Strm S' ∧ C L (n+4) 35 [.own S, .val (.int most)] = some (.own [W p q c, W p' q' c'], [S']) := by
  obtain ⟨p, q, c, S1, a4, a5, G, cl1, s1, n4, n5, e1⟩ := pair_step (L := L) (n := n) m1 m2 (S := S) (fd := []) (.int 0) .nil .nil .nil hS rfl rfl rfl (by simp)
  obtain ⟨p', q', c', S2, b4, b5, G', cl2, s2, m4, m5, e2⟩ := pair_step (L := L) (n := n) m1 m2 (S := S1) (fd := [W p q c]) (.int 1) (.val (.int 0)) a4 a5 s1 rfl n4 n5 (by simp)
  refine ⟨p, q, c, p', q', c', S2, G, G', ⟨cl1, cl2⟩, s2, ?_⟩
  have hd : doF (C L (n+3)) L (.nm 3) pairB (rangeD 0 (2 : Int).toNat) [.io S, .val (.int most), .own [], .nil, .nil, .nil] = some (.nx [.io S2, .val (.int most), .own [W p q c, W p' q' c'], .val (.int 1), b4, b5]) := by
    have hr : rangeD 0 (2 : Int).toNat = [.int 0, .int 1] := rfl
    rw [hr, f_step e1, List.nil_append, f_step e2, f_nil]
    rfl
  have hs : decide (Small (2 : Int)) = true := by decide
  rw [call_to (d := b83d35) rfl]
  unfold pairB at hd
  simp only [b83d35, b83_law_pair]
  simp_arith [hs, hd]
theorem s_apart {most : Int} (m1 : 6 ≤ most) (m2 : most ≤ 100000) {S : List D} (hS : Strm S) : ∃ (p q c p' q' c' : Int) (S' : List D), GW most p q c ∧ GW most p' q' c' ∧ (c ≤ 5000000 ∧ c' ≤ 5000000) ∧ Strm S' ∧ C L (n+2) 38 [.own S, .val (.int most)] = some (.own [W p q c, W p' q' c'], [S']) := by
  have t0 : 2 ≤ most / 3 := by omega
  have d3 : DivOk 3 := divOk_of (by omega) (by omega)
  have pow6 : evalBin .pow (.int 10) (.int 6) = some (.val (.int 1000000)) := by rfl
  obtain ⟨a, S1, a1, a2, a3, a4⟩ := s_nextN (L := L) (n := n) S (most / 3) hS (by omega) (by omega)
  obtain ⟨b, S2, b1, b2, b3, b4⟩ := s_nextN (L := L) (n := n) S1 1000000 a2 (by omega) (by omega)
  have hn0 : 0 < 2 + a := by omega
  have dn : DivOk (2 + a) := divOk_of hn0 (by omega)
  have k0 : 1 ≤ most / (2 + a) := by rw [Int.le_ediv_iff_mul_le hn0]; omega
  have k1 : most / (2 + a) ≤ most := Int.ediv_le_self _ (by omega)
  have k2 : (2 + a) * (most / (2 + a)) ≤ most := Int.mul_ediv_self_le (by omega)
  obtain ⟨x, S3, x1, x2, x3, x4⟩ := s_nextN (L := L) (n := n) S2 (most / (2 + a)) b2 (by omega) (by omega)
  obtain ⟨y, S4, y1, y2, y3, y4⟩ := s_nextN (L := L) (n := n) S3 (most / (2 + a)) x2 (by omega) (by omega)
  obtain ⟨z, S5, z1, z2, z3, z4⟩ := s_nextN (L := L) (n := n) S4 2 y2 (by omega) (by omega)
  have px : (2 + a) * (1 + x) ≤ (2 + a) * (most / (2 + a)) := Int.mul_le_mul_of_nonneg_left (by omega) (by omega)
  have py : (2 + a) * (1 + y) ≤ (2 + a) * (most / (2 + a)) := Int.mul_le_mul_of_nonneg_left (by omega) (by omega)
  have px0 : (2 + a) * 1 ≤ (2 + a) * (1 + x) := Int.mul_le_mul_of_nonneg_left (by omega) (by omega)
  have py0 : (2 + a) * 1 ≤ (2 + a) * (1 + y) := Int.mul_le_mul_of_nonneg_left (by omega) (by omega)
  have hm1 : Pi.MulOk (2 + a) (1 + x) := mulS (by omega)
  have hm2 : Pi.MulOk (2 + a) (1 + y) := mulS (by omega)
  by_cases hz : z = 0
  · obtain ⟨w, S6, w1, w2, w3, w4⟩ := s_nextN (L := L) (n := n) S5 9 z2 (by omega) (by omega)
    have pw : (2 + a) * w ≤ (2 + a) * 8 := Int.mul_le_mul_of_nonneg_left (by omega) (by omega)
    have pw0 : 0 ≤ (2 + a) * w := Int.mul_nonneg (by omega) w3
    have hm3 : Pi.MulOk (2 + a) w := mulS (by omega)
    refine ⟨(2 + a) * (1 + x), 1, b, (2 + a) * (1 + y), 1, b + (2 + a) * w, S6, ⟨by omega, by omega, by omega, by omega, Int.gcd_one_right _, by omega, by omega, m2⟩, ⟨by omega, by omega, by omega, by omega, Int.gcd_one_right _, by omega, by omega, m2⟩, ⟨by omega, by omega⟩, w2, ?_⟩
    subst hz
    rw [call_to (d := b83d38) rfl]
    simp only [b83d38, b83_law_apart]
    simp_arith [fdiv_int d3, a1, pow6, b1, fdiv_int dn, x1, decide_eq_true hm1, y1, decide_eq_true hm2, z1, w1, decide_eq_true hm3]
  · obtain ⟨w, S6, w1, w2, w3, w4⟩ := s_nextN (L := L) (n := n) S5 1000000 z2 (by omega) (by omega)
    have hz' : (z == 0) = false := by simpa using hz
    refine ⟨(2 + a) * (1 + x), 1, b, (2 + a) * (1 + y), 1, w, S6, ⟨by omega, by omega, by omega, by omega, Int.gcd_one_right _, by omega, by omega, m2⟩, ⟨by omega, by omega, by omega, by omega, Int.gcd_one_right _, by omega, by omega, m2⟩, ⟨by omega, by omega⟩, w2, ?_⟩
    rw [call_to (d := b83d38) rfl]
    simp only [b83d38, b83_law_apart]
    simp_arith [fdiv_int d3, a1, pow6, b1, fdiv_int dn, x1, decide_eq_true hm1, y1, decide_eq_true hm2, z1, hz', w1]
theorem s_run2 {j : Nat} {a b r : D} (h : C L n j [.val a, .val b] = some (.val r, [])) : C L (n+1) 36 [.val (.fn j), .val (.ls [a, b])] = some (.val r, []) := by
  rw [call_to (d := b83d36) rfl]
  simp only [b83d36, b83_law_run]
  simp_arith [h]
theorem s_run3 {j : Nat} {a b c r : D} (h : C L n j [.val a, .val b, .val c] = some (.val r, [])) : C L (n+1) 36 [.val (.fn j), .val (.ls [a, b, c])] = some (.val r, []) := by
  rw [call_to (d := b83d36) rfl]
  simp only [b83d36, b83_law_run]
  simp_arith [h]
theorem s_run4 {j : Nat} {a b c d r : D} (h : C L n j [.val a, .val b, .val c, .val d] = some (.val r, [])) : C L (n+1) 36 [.val (.fn j), .val (.ls [a, b, c, d])] = some (.val r, []) := by
  rw [call_to (d := b83d36) rfl]
  simp only [b83d36, b83_law_run]
  simp_arith [h]
theorem s_has {p q c d : Int} (hq : 0 ≤ q ∧ q ≤ 100000) (hp : 0 < p) : C L (n+1) 37 [.val (W p q c), .val (.int d)] = some (.val (.bl (H p q c d)), []) := by
  have hm1 : Pi.MulOk q d := mulS (by omega)
  rw [call_to (d := b83d37) rfl]
  simp only [b83d37, b83_law_has]
  simp_arith [decide_eq_true hm1, mod_int hp]
  rfl
theorem s_many {p q c d : Int} (hq : 0 ≤ q ∧ q ≤ 100000) (hp : 0 < p) (hp2 : p ≤ 100000) : C L (n+1) 39 [.val (W p q c), .val (.int d)] = some (.val (.int (ev p q c d)), []) := by
  have hm1 : Pi.MulOk q d := mulS (by omega)
  have hd : DivOk p := divOk_of hp (by omega)
  have e : q * d - c - 1 = q * d - 1 - c := by omega
  rw [call_to (d := b83d39) rfl]
  simp only [b83d39, b83_law_many]
  simp_arith [decide_eq_true hm1, fdiv_int hd, e]
  rfl
def cntR (p q c g : Int) (k : Nat) (r : Int) : Nat := sm k (fun d => if (H p q c (d : Int) && decide ((d : Int) % g = r)) = true then 1 else 0)
def restB : CSs := (.cons (.ife (.call 37 (.cons (.var 0) (.cons (.var 3) .nil)) []) (.cons (.asg (.nm 4) (.bin .mod (.bi .int (.cons (.var 3) .nil)) (.var 1))) (.cons (.setix 2 (.var 4) (.bin .add (.ixv 2 (.var 4)) (.cst (.int (1))))) .nil)) .nil) .nil)
theorem rest_loop {p q c g : Int} (hq : 0 ≤ q ∧ q ≤ 100000) (hp : 0 < p) (hg : 0 < g) (hg2 : g ≤ 1000000) : ∀ (m k : Nat) (s3 s4 : Slot), nio s3 = true → nio s4 = true →
    ∃ s3' s4' : Slot, doF (C L (n+1)) L (.nm 3) restB (rangeD (k : Int) m) [.val (W p q c), .val (.int g), .own ((restsTo g).map fun r => .int (cntR p q c g k r)), s3, s4] = some (.nx [.val (W p q c), .val (.int g), .own ((restsTo g).map fun r => .int (cntR p q c g (k + m) r)), s3', s4'])
  | 0, k, s3, s4, h3, h4 => ⟨s3, s4, rfl⟩
  | m + 1, k, s3, s4, h3, h4 => by
    have hr : rangeD (k : Int) (m + 1) = .int (k : Int) :: rangeD ((k + 1 : Nat) : Int) m := by
      unfold rangeD
      rw [List.range_succ_eq_map, List.map_cons, List.map_map]
      congr 1
      apply List.map_congr_left
      intro i _
      simp only [Function.comp_apply]
      congr 1
      omega
    have hh := s_has (L := L) (n := n) (p := p) (q := q) (c := c) (d := (k : Int)) hq hp
    have z0 := Int.emod_nonneg (k : Int) (show g ≠ 0 by omega)
    have z1 := Int.emod_lt_of_pos (k : Int) hg
    have en : k + (m + 1) = k + 1 + m := by omega
    rw [hr, en]
    cases hk : H p q c (k : Int) with
    | false =>
      obtain ⟨s3', s4', ih⟩ := rest_loop hq hp hg hg2 m (k + 1) (.val (.int (k : Int))) s4 rfl h4
      refine ⟨s3', s4', ?_⟩
      rw [← ih, f_step]
      have e : ((restsTo g).map fun r => D.int (cntR p q c g (k + 1) r)) = (restsTo g).map fun r => D.int (cntR p q c g k r) := by
        apply List.map_congr_left
        intro r _
        congr 2
        show sm k _ + (if (H p q c (k : Int) && decide ((k : Int) % g = r)) = true then 1 else 0) = cntR p q c g k r
        rw [hk]
        rfl
      rw [e]
      unfold restB
      simp_arith [h3, hh, hk]
    | true =>
      obtain ⟨s3', s4', ih⟩ := rest_loop hq hp hg hg2 m (k + 1) (.val (.int (k : Int))) (.val (.int ((k : Int) % g))) rfl rfl
      refine ⟨s3', s4', ?_⟩
      rw [← ih, f_step]
      have hlen : (restsTo g).length = g.toNat := up_length _ _
      have hgt : (restsTo g)[((k : Int) % g).toNat]? = some ((k : Int) % g) := by
        unfold restsTo upI
        rw [List.getElem?_map, List.getElem?_range (by omega)]
        show some (0 + ((((k : Int) % g).toNat : Nat) : Int)) = _
        congr 1
        omega
      have hat : L2.atI ((restsTo g).map fun r => D.int (cntR p q c g k r)) ((k : Int) % g) = some (.int (cntR p q c g k ((k : Int) % g))) := by
        have := at_nat (ds := (restsTo g).map fun r => D.int (cntR p q c g k r)) (k := ((k : Int) % g).toNat) (x := .int (cntR p q c g k ((k : Int) % g))) (by rw [List.getElem?_map, hgt]; rfl)
        rwa [show ((((k : Int) % g).toNat : Nat) : Int) = (k : Int) % g by omega] at this
      have hix : L2.ixN ((restsTo g).map fun r => D.int (cntR p q c g k r)).length ((k : Int) % g) = some ((k : Int) % g).toNat := by
        unfold L2.ixN
        rw [List.length_map, hlen, if_pos (by omega), if_pos (by omega)]
      have e : (((restsTo g).map fun r => D.int (cntR p q c g k r)).set ((k : Int) % g).toNat (.int ((cntR p q c g k ((k : Int) % g) : Int) + 1))) = (restsTo g).map fun r => D.int (cntR p q c g (k + 1) r) := by
        apply List.ext_getElem?
        intro i
        have step : ∀ r, cntR p q c g (k + 1) r = cntR p q c g k r + (if (k : Int) % g = r then 1 else 0) := fun r => by
          show sm k _ + (if (H p q c (k : Int) && decide ((k : Int) % g = r)) = true then 1 else 0) = _
          rw [hk, Bool.true_and]
          simp only [decide_eq_true_eq]
          rfl
        by_cases hi : i = ((k : Int) % g).toNat
        · subst hi
          rw [List.getElem?_set_self (by rw [List.length_map, hlen]; omega), List.getElem?_map, hgt]
          show _ = some (D.int _)
          rw [step, if_pos rfl]
          rfl
        · rw [List.getElem?_set_ne (Ne.symm hi), List.getElem?_map, List.getElem?_map]
          cases hx : (restsTo g)[i]? with
          | none => rfl
          | some r =>
            show some (D.int _) = some (D.int _)
            rw [step, if_neg]
            · rfl
            · intro h
              apply hi
              have hl := (List.getElem?_eq_some_iff.mp hx).1
              have hi2 : (restsTo g)[i]? = some (0 + (i : Int)) := by
                unfold restsTo upI
                rw [List.getElem?_map, List.getElem?_range (by omega)]
                rfl
              rw [hx] at hi2
              have := Option.some.inj hi2
              omega
      rw [← e]
      unfold restB
      simp_arith [h3, h4, hh, hk, mod_int hg, hat, hix]
theorem cntR_S {p q c g r : Int} (hp : 0 < p) (hg : 0 < g) (hgp : g ∣ p) (h0 : 0 ≤ r) (h1 : r < g) : cntR p q c g p.toNat r = S p q c g r := by
  have e1 : g * (p / g) = p := Int.mul_ediv_cancel' hgp
  have m0 : 0 < p / g := Int.ediv_pos_of_pos_of_dvd hp (by omega) hgp
  unfold cntR S
  have pN : p.toNat = g.toNat * (p / g).toNat := by
    rw [← Int.toNat_mul (by omega) (by omega), e1]
  rw [pN, sm_mul]
  have gN : ((g.toNat : Nat) : Int) = g := by omega
  rw [sm_congr (g := fun a => if r.toNat = a then sm (p / g).toNat (fun j => ind (H p q c ((a : Int) + g * (j : Int)))) else 0), sm_delta _ (show r.toNat < g.toNat by omega)]
  · have : ((r.toNat : Nat) : Int) = r := by omega
    rw [this]
  · intro a ha
    by_cases h : r.toNat = a
    · rw [if_pos h]
      apply sm_congr
      intro j _
      have ej : ((a + g.toNat * j : Nat) : Int) = (a : Int) + g * (j : Int) := by rw [Int.natCast_add, Int.natCast_mul, gN]
      rw [ej, Int.add_mul_emod_self_left, Int.emod_eq_of_lt (by omega) (by omega), decide_eq_true (show (a : Int) = r by omega), Bool.and_true]
      rfl
    · rw [if_neg h, sm_congr (g := fun _ => 0), sm_zero]
      intro j _
      have ej : ((a + g.toNat * j : Nat) : Int) = (a : Int) + g * (j : Int) := by rw [Int.natCast_add, Int.natCast_mul, gN]
      rw [ej, Int.add_mul_emod_self_left, Int.emod_eq_of_lt (by omega) (by omega), decide_eq_false (show ¬ (a : Int) = r by omega), Bool.and_false]
      rfl
theorem s_rests {m p q c g : Int} (G : GW m p q c) (hg : 0 < g) (hgp : g ∣ p) : C L (n+2) 40 [.val (W p q c), .val (.int g)] = some (.own ((restsTo g).map fun r => .int (dw p q c g r)), []) := by
  have g1 := G.p1; have g2 := G.p2; have g3 := G.q1; have g4 := G.q2; have g5 := G.m2
  have hle : g ≤ p := Int.le_of_dvd (by omega) hgp
  obtain ⟨s3, s4, hl⟩ := rest_loop (L := L) (n := n) (p := p) (q := q) (c := c) (g := g) (by omega) (by omega) hg (by omega) p.toNat 0 .nil .nil rfl rfl
  have e0 : ((restsTo g).map fun r => D.int (cntR p q c g 0 r)) = List.replicate g.toNat (D.int 0) := by
    apply List.ext_getElem?
    intro i
    rw [List.getElem?_map, List.getElem?_replicate]
    unfold restsTo
    by_cases h : i < g.toNat
    · rw [if_pos h, List.getElem?_eq_getElem (by rw [up_length]; exact h)]
      rfl
    · rw [if_neg h, List.getElem?_eq_none (by rw [up_length]; omega)]
      rfl
  have e1 : ((restsTo g).map fun r => D.int (cntR p q c g (0 + p.toNat) r)) = (restsTo g).map fun r => D.int (dw p q c g r) := by
    apply List.map_congr_left
    intro r hr
    have := mem_rests hr
    rw [Nat.zero_add, cntR_S (by omega) hg hgp this.1 this.2, S_dw (by omega) (by omega) hg hgp G.g]
  rw [e0, e1] at hl
  have hmul : evalBin .mul (.ls [.int 0]) (.int g) = some (.own (List.replicate g.toNat (D.int 0))) := by
    show (if _ then some (Slot.own (List.replicate g.toNat [D.int 0]).flatten) else none) = _
    rw [if_pos, fill_zero]
    refine ⟨by omega, by omega, ?_⟩
    have : sizeLine = 16777216 := sizeLine_v
    rw [List.length_singleton, this]
    omega
  have hs : decide (Small p ∧ p ≤ 16777216) = true := decide_eq_true ⟨⟨by omega, by omega⟩, by omega⟩
  have hc : ((0 : Nat) : Int) = 0 := rfl
  rw [hc] at hl
  unfold restB at hl
  rw [call_to (d := b83d40) rfl]
  simp only [b83d40, b83_law_rests]
  simp_arith [hmul, hs, hl]
end
end K83

-- K83P6
set_option maxHeartbeats 4000000
namespace K83
open PySem Pi
theorem never_eq : (("never" : Str) == "never") = true := by decide +kernel
theorem both_eq : (("both" : Str) == "both") = true := by decide +kernel
theorem both_never : (("both" : Str) == "never") = false := by decide +kernel
theorem never_both : (("never" : Str) == "both") = false := by decide +kernel
theorem ct2 (a b : D) : cutD [a, b] (some 1) none = [b] := rfl
theorem ct4 (a b c d : D) : cutD [a, b, c, d] (some 1) none = [b, c, d] := rfl
def V1 (k : Int) : D := .tup [.str "never", .int k]
def V2 (k : Int) : D := .tup [.str "both", .int k]
def V3 (d e f : Int) : D := .tup [.str "both", .int d, .int e, .int f]
def j1 (p q c p' q' c' k : Int) : Bool := !(!(p % k == 0) || !(p' % k == 0)) && (firstR (comR q c q' c' k) (restsTo k)).isNone
def j3 (p q c p' q' c' d e f : Int) : Bool := ((p * e + c) / q == d) && ((p' * f + c') / q' == d)
theorem all1 : evalBI .all [.ls [.bl true]] = some (.val (.bl true)) := rfl
theorem all3 : evalBI .all [.ls [.bl true, .bl true, .bl true]] = some (.val (.bl true)) := rfl
section
variable {L n : Nat} {p q c p' q' c' : Int}
theorem acc_lc {s0 s1 s2 : D} (xs : List Int) : doC (C L (n+1)) (.call 0 (.cons (.var 4) .nil) []) (.nm 4) (.cst (.bl true)) [4] (xs.map D.int) [.val s0, .val s1, .val s2, .nil, .nil] [] = some (xs.map (fun _ => D.bl true), [.val s0, .val s1, .val s2, .nil, .nil]) := by
  have := doC_ints (cl := C L (n+1)) (elt := .call 0 (.cons (.var 4) .nil) []) (t := .nm 4) (cond := .cst (.bl true)) (vs := [4]) (env := [.val s0, .val s1, .val s2, .nil, .nil]) (fun _ => true) (fun _ => D.bl true) xs fun x _ => by
    have h := s_isInt (L := L) (n := n) (d := .int x) rfl
    simp only [isInt] at h
    unfold stepC
    simp_arith [h]
  rw [List.filter_eq_self.mpr (fun _ _ => rfl)] at this
  exact this
theorem s_acc1 {k : Int} (G : GW 100000 p q c) (G' : GW 100000 p' q' c') (hL : 200000 < L) (k1 : 1 ≤ k) (k2 : k ≤ 100000) : C L (n+6) 20 [.val (W p q c), .val (W p' q' c'), .val (V1 k)] = some (.val (.bl (j1 p q c p' q' c' k)), []) := by
  have g1 := G.p1; have g2 := G.p2; have g3 := G.q1; have g4 := G.q2; have h1 := G'.p1; have h2 := G'.p2; have h3 := G'.q1; have h4 := G'.q2
  have hk := s_checkPair (L := L) (n := n) G G' (by omega)
  have ht := s_tupleOf (L := L) (n := n + 4) (d := V1 k) (a := 2) (b := 4) rfl
  have hc := s_commonRest (L := L) (n := n + 3) (p := p) (q := q) (c := c) (p' := p') (q' := q') (c' := c') (m := k) (by omega) (by omega) (by omega) (by omega)
  have hl := acc_lc (L := L) (n := n + 4) (s0 := W p q c) (s1 := W p' q' c') (s2 := V1 k) [k]
  have hk0 : (0 : Int) < k := by omega
  have hk1 : decide (k < 1) = false := decide_eq_false (by omega)
  rw [List.map_cons, List.map_nil, List.map_cons, List.map_nil] at hl
  unfold j1
  rw [call_to (d := b83d20) rfl]
  simp only [b83d20, b83accepts_both, V1] at *
  simp only [isTupB, List.length_cons, List.length_nil] at ht
  cases e1 : (p % k == 0) with
  | false => simp_arith [hk, ht, sl_tup part_int part_non, ct2, hl, all1, never_eq, hk1, mod_int hk0, e1]
  | true =>
    cases e2 : (p' % k == 0) with
    | false => simp_arith [hk, ht, sl_tup part_int part_non, ct2, hl, all1, never_eq, hk1, mod_int hk0, e1, e2]
    | true =>
      simp_arith [hk, ht, sl_tup part_int part_non, ct2, hl, all1, never_eq, hk1, mod_int hk0, e1, e2, hc]
      cases firstR (comR q c q' c' k) (restsTo k) <;> simp_arith [] <;> rfl
theorem s_acc2 {k : Int} (G : GW 100000 p q c) (G' : GW 100000 p' q' c') (hL : 200000 < L) : C L (n+6) 20 [.val (W p q c), .val (W p' q' c'), .val (V2 k)] = some (.val (.bl false), []) := by
  have hk := s_checkPair (L := L) (n := n) G G' (by omega)
  have ht := s_tupleOf (L := L) (n := n + 4) (d := V2 k) (a := 2) (b := 4) rfl
  have hl := acc_lc (L := L) (n := n + 4) (s0 := W p q c) (s1 := W p' q' c') (s2 := V2 k) [k]
  rw [List.map_cons, List.map_nil, List.map_cons, List.map_nil] at hl
  rw [call_to (d := b83d20) rfl]
  simp only [b83d20, b83accepts_both, V2] at *
  simp only [isTupB, List.length_cons, List.length_nil] at ht
  simp_arith [hk, ht, sl_tup part_int part_non, ct2, hl, all1, both_never]
theorem s_acc3 {d e f : Int} (G : GW 100000 p q c) (G' : GW 100000 p' q' c') (hL : 200000 < L) : C L (n+6) 20 [.val (W p q c), .val (W p' q' c'), .val (V3 d e f)] = some (.val (.bl (j3 p q c p' q' c' d e f)), []) := by
  have g1 := G.p1; have g2 := G.p2; have g3 := G.q1; have g4 := G.q2; have h1 := G'.p1; have h2 := G'.p2; have h3 := G'.q1; have h4 := G'.q2
  have hk := s_checkPair (L := L) (n := n) G G' (by omega)
  have ht := s_tupleOf (L := L) (n := n + 4) (d := V3 d e f) (a := 2) (b := 4) rfl
  have hl := acc_lc (L := L) (n := n + 4) (s0 := W p q c) (s1 := W p' q' c') (s2 := V3 d e f) [d, e, f]
  have d1 := s_dayAmong (L := L) (n := n + 4) (p := p) (q := q) (c := c) (e := e) (mulS (by omega)) (divOk_of (by omega) (by omega))
  have d2 := s_dayAmong (L := L) (n := n + 4) (p := p') (q := q') (c := c') (e := f) (mulS (by omega)) (divOk_of (by omega) (by omega))
  simp only [List.map_cons, List.map_nil] at hl
  unfold j3
  rw [call_to (d := b83d20) rfl]
  simp only [b83d20, b83accepts_both, V3] at *
  simp only [isTupB, List.length_cons, List.length_nil] at ht
  cases e1 : ((p * e + c) / q == d) with
  | false => simp_arith [hk, ht, sl_tup part_int part_non, ct4, hl, all3, both_eq, d1, d2, e1]
  | true => simp_arith [hk, ht, sl_tup part_int part_non, ct4, hl, all3, both_eq, d1, d2, e1]
theorem one_lc {s0 s1 s2 s3 s4 s5 s6 s8 s9 s10 : Slot} (xs : List Int) : doC (C L (n+1)) (.var 7) (.nm 7) (.not (.call 32 (.cons (.var 7) .nil) [])) [7] (xs.map D.int) [s0, s1, s2, s3, s4, s5, s6, .nil, s8, s9, s10] [] = some ([], [s0, s1, s2, s3, s4, s5, s6, .nil, s8, s9, s10]) := by
  have := doC_ints (cl := C L (n+1)) (elt := .var 7) (t := .nm 7) (cond := .not (.call 32 (.cons (.var 7) .nil) [])) (vs := [7]) (env := [s0, s1, s2, s3, s4, s5, s6, .nil, s8, s9, s10]) (fun _ => false) (fun _ => D.bl true) xs fun x _ => by
    have h := s_whole (L := L) (n := n) (d := .int x) rfl
    simp only [isInt] at h
    unfold stepC
    simp_arith [h]
  rw [this]
  congr 2
  rw [List.filter_eq_nil_iff.mpr (by simp)]
  rfl
theorem nil_ne : evalCmp .ne (.ls []) (.ls []) = some false := ne_nilI (xs := [])
theorem nin2 : evalCmp .nin (.int 2) (.tup [.int 2, .int 4]) = some false := rfl
theorem nin4 : evalCmp .nin (.int 4) (.tup [.int 2, .int 4]) = some false := rfl
theorem s_one2 {k : Int} : C L (n+2) 41 [.val (W p q c), .val (W p' q' c'), .val (V2 k)] = some (.val (.bl false), []) := by
  have hp := s_plain (L := L) (n := n) (v := V2 k) (by simp [V2, D.nodes, D.nodesL]) (by simp [V2, D.fnless, D.fnlessL])
  have hpl : (V2 k).plain = true := by simp [V2, D.plain, D.plainL]
  rw [hpl] at hp
  have hl := one_lc (L := L) (n := n) (s0 := .val (W p q c)) (s1 := .val (W p' q' c')) (s2 := .val (V2 k)) (s3 := .nil) (s4 := .nil) (s5 := .nil) (s6 := .nil) (s8 := .nil) (s9 := .nil) (s10 := .nil) [k]
  rw [List.map_cons, List.map_nil] at hl
  rw [call_to (d := b83d41) rfl]
  simp only [b83d41, b83_law_is_one, V2] at *
  simp_arith [hp, nin2, sl_tup part_int part_non, ct2, hl, nil_ne, both_never]
theorem day_lc {s2 s3 s4 s5 s6 s7 s10 : Slot} {e f : Int} (m1 : MulOk p e) (m2 : MulOk p' f) (d1 : DivOk q) (d2 : DivOk q') : doC (C L n) (.bin .fdiv (.bin .add (.bin .mul (.ixv 8 (.cst (.int (0)))) (.var 9)) (.ixv 8 (.cst (.int (2))))) (.ixv 8 (.cst (.int (1))))) (.tp [8, 9]) (.cst (.bl true)) [8, 9] [.tup [W p q c, .int e], .tup [W p' q' c', .int f]] [.val (W p q c), .val (W p' q' c'), s2, s3, s4, s5, s6, s7, .nil, .nil, s10] [] = some ([D.int ((p * e + c) / q), D.int ((p' * f + c') / q')], [.val (W p q c), .val (W p' q' c'), s2, s3, s4, s5, s6, s7, .nil, .nil, s10]) := by
  simp_arith [d_cons, stepC, decide_eq_true m1, decide_eq_true m2, fdiv_int d1, fdiv_int d2]
theorem two_eq {a b d : Int} : evalCmp .eq (.ls [.int a, .int b]) (.ls [.int d, .int d]) = some ((a == d) && (b == d)) := by
  have := eq_ints (xs := [a, b]) (ys := [d, d])
  rw [show ([a, b] : List Int).map D.int = [.int a, .int b] from rfl, show ([d, d] : List Int).map D.int = [.int d, .int d] from rfl] at this
  rw [this]
  congr 1
  show (a == d && (b == d && true)) = _
  rw [Bool.and_true]
theorem s_one3 {d e f : Int} (G : GW 100000 p q c) (G' : GW 100000 p' q' c') : C L (n+2) 41 [.val (W p q c), .val (W p' q' c'), .val (V3 d e f)] = some (.val (.bl (j3 p q c p' q' c' d e f)), []) := by
  have g1 := G.p1; have g2 := G.p2; have g3 := G.q1; have g4 := G.q2; have h1 := G'.p1; have h2 := G'.p2; have h3 := G'.q1; have h4 := G'.q2
  have hp := s_plain (L := L) (n := n) (v := V3 d e f) (by simp [V3, D.nodes, D.nodesL]) (by simp [V3, D.fnless, D.fnlessL])
  have hpl : (V3 d e f).plain = true := by simp [V3, D.plain, D.plainL]
  rw [hpl] at hp
  have hl := one_lc (L := L) (n := n) (s0 := .val (W p q c)) (s1 := .val (W p' q' c')) (s2 := .val (V3 d e f)) (s3 := .nil) (s4 := .nil) (s5 := .nil) (s6 := .nil) (s8 := .nil) (s9 := .nil) (s10 := .nil) [d, e, f]
  simp only [List.map_cons, List.map_nil] at hl
  have hl2 := day_lc (L := L) (n := n + 1) (p := p) (q := q) (c := c) (p' := p') (q' := q') (c' := c') (s2 := .val (V3 d e f)) (s3 := .nil) (s4 := .nil) (s5 := .nil) (s6 := .nil) (s7 := .nil) (s10 := .nil) (e := e) (f := f) (mulS (by omega)) (mulS (by omega)) (divOk_of (by omega) (by omega)) (divOk_of (by omega) (by omega))
  unfold j3
  rw [call_to (d := b83d41) rfl]
  simp only [b83d41, b83_law_is_one, V3] at *
  simp_arith [hp, nin4, sl_tup part_int part_non, ct4, hl, nil_ne, hl2, both_eq, two_eq]
theorem rest_lc {s0 s1 s2 s3 s7 s8 s9 : Slot} {k : Int} (hp : 0 < p) (hq : 0 < q) (hp' : 0 < p') (hq' : 0 < q') (hk : 0 < k) (hkp : k ∣ p) (hkp' : k ∣ p') :
    doC (C L n) (.var 10) (.nm 10) (.and (.cmp .gt (.ixv 5 (.var 10)) (.cst (.int (0)))) (.cmp .gt (.ixv 6 (.var 10)) (.cst (.int (0))))) [10] ((restsTo k).map D.int)
      [s0, s1, s2, s3, .val (.int k), .own ((restsTo k).map fun r => .int (dw p q c k r)), .own ((restsTo k).map fun r => .int (dw p' q' c' k r)), s7, s8, s9, .nil] [] =
      some (((restsTo k).filter (comR q c q' c' k)).map D.int, [s0, s1, s2, s3, .val (.int k), .own ((restsTo k).map fun r => .int (dw p q c k r)), .own ((restsTo k).map fun r => .int (dw p' q' c' k r)), s7, s8, s9, .nil]) :=
  doC_ints _ _ _ fun r hr => by
    have ⟨r0, r1⟩ := mem_rests hr
    have at_ : ∀ (f : Int → Int), L2.atI ((restsTo k).map fun r => D.int (f r)) r = some (.int (f r)) := fun f => by
      have hgt : (restsTo k)[r.toNat]? = some r := by
        unfold restsTo upI
        rw [List.getElem?_map, List.getElem?_range (by omega)]
        show some (0 + ((r.toNat : Nat) : Int)) = _
        congr 1
        omega
      have := at_nat (ds := (restsTo k).map fun r => D.int (f r)) (k := r.toNat) (x := .int (f r)) (by rw [List.getElem?_map, hgt]; rfl)
      rwa [show ((r.toNat : Nat) : Int) = r by omega] at this
    have a1 := at_ (dw p q c k)
    have a2 := at_ (dw p' q' c' k)
    have e1 := (dw_pos (c := c) (r := r) hp hq hk hkp).1
    have e2 := (dw_pos (c := c') (r := r) hp' hq' hk hkp').1
    unfold comR
    rw [← e1, ← e2]
    cases k1 : decide (0 < dw p q c k r) <;> cases k2 : decide (0 < dw p' q' c' k r) <;> (unfold stepC; simp_arith [a1, a2, k1, k2])
theorem filter_none {f : Int → Bool} : ∀ (xs : List Int), (xs.filter f).isEmpty = (firstR f xs).isNone
  | [] => rfl
  | x :: xs => by
    unfold firstR
    cases h : f x
    · simp [h, filter_none xs]
    · simp [h]
theorem dvd_mod {p k : Int} (h : (p % k == 0) = true) : k ∣ p := Int.dvd_of_emod_eq_zero (by simpa using h)
theorem s_one1 {k : Int} (G : GW 100000 p q c) (G' : GW 100000 p' q' c') (k1 : 1 ≤ k) (k2 : k ≤ 100000) : C L (n+3) 41 [.val (W p q c), .val (W p' q' c'), .val (V1 k)] = some (.val (.bl (j1 p q c p' q' c' k)), []) := by
  have g1 := G.p1; have g2 := G.p2; have g3 := G.q1; have g4 := G.q2; have h1 := G'.p1; have h2 := G'.p2; have h3 := G'.q1; have h4 := G'.q2
  have hp := s_plain (L := L) (n := n + 1) (v := V1 k) (by simp [V1, D.nodes, D.nodesL]) (by simp [V1, D.fnless, D.fnlessL])
  have hpl : (V1 k).plain = true := by simp [V1, D.plain, D.plainL]
  rw [hpl] at hp
  have hl := one_lc (L := L) (n := n + 1) (s0 := .val (W p q c)) (s1 := .val (W p' q' c')) (s2 := .val (V1 k)) (s3 := .nil) (s4 := .nil) (s5 := .nil) (s6 := .nil) (s8 := .nil) (s9 := .nil) (s10 := .nil) [k]
  rw [List.map_cons, List.map_nil] at hl
  have hk0 : (0 : Int) < k := by omega
  have hk1 : decide (k < 1) = false := decide_eq_false (by omega)
  have hs : decide (Small k ∧ k ≤ 16777216) = true := decide_eq_true ⟨⟨by omega, by omega⟩, by omega⟩
  have hr : rangeD 0 k.toNat = (restsTo k).map D.int := rangeD_up _ _
  unfold j1
  rw [call_to (d := b83d41) rfl]
  simp only [b83d41, b83_law_is_one, V1] at *
  cases e1 : (p % k == 0) with
  | false => simp_arith [hp, nin2, sl_tup part_int part_non, ct2, hl, nil_ne, never_eq, hk1, mod_int hk0, e1]
  | true =>
    cases e2 : (p' % k == 0) with
    | false => simp_arith [hp, nin2, sl_tup part_int part_non, ct2, hl, nil_ne, never_eq, hk1, mod_int hk0, e1, e2]
    | true =>
      have d1 := dvd_mod e1
      have d2 := dvd_mod e2
      have r1 := s_rests (L := L) (n := n) G hk0 d1
      have r2 := s_rests (L := L) (n := n) G' hk0 d2
      have hl2 := rest_lc (L := L) (n := n + 2) (p := p) (q := q) (c := c) (p' := p') (q' := q') (c' := c') (s0 := .val (W p q c)) (s1 := .val (W p' q' c')) (s2 := .val (.tup [.str "never", .int k])) (s3 := .nil) (s7 := .nil) (s8 := .nil) (s9 := .nil) (by omega) (by omega) (by omega) (by omega) hk0 d1 d2
      have hn := eq_nilI (xs := (restsTo k).filter (comR q c q' c' k))
      rw [filter_none] at hn
      rw [← hr] at hl2
      generalize ((restsTo k).map fun r => D.int (dw p q c k r)) = xs at *
      generalize ((restsTo k).map fun r => D.int (dw p' q' c' k r)) = ys at *
      simp_arith [hp, nin2, sl_tup part_int part_non, ct2, hl, nil_ne, never_eq, hk1, mod_int hk0, e1, e2, r1, r2, hs, hl2, hn]
end
end K83

-- K83P7
set_option maxHeartbeats 4000000
namespace K83
open PySem Pi
theorem min_int {i j : Int} : evalBI .min [.int i, .int j] = some (.val (.int (min i j))) := by
  show some (Slot.val (.int (if j < i then j else i))) = _
  congr 3
  rw [Int.min_def]
  split <;> split <;> omega
theorem sum_nonneg : ∀ (xs : List Int), (∀ x ∈ xs, 0 ≤ x) → 0 ≤ xs.sum ∧ (xs.sum = 0 → ∀ x ∈ xs, x = 0)
  | [], _ => ⟨Int.le_refl _, fun _ x hx => by cases hx⟩
  | y :: ys, h => by
    obtain ⟨a, b⟩ := sum_nonneg ys fun x hx => h x (List.mem_cons_of_mem _ hx)
    have h0 := h y List.mem_cons_self
    rw [List.sum_cons]
    refine ⟨by omega, fun e x hx => ?_⟩
    rcases List.mem_cons.mp hx with rfl | hx
    · omega
    · exact b (by omega) x hx
theorem sm_ind_le {f : Nat → Bool} : ∀ n, sm n (fun k => ind (f k)) ≤ n
  | 0 => Nat.le_refl _
  | n + 1 => by
    show sm n _ + ind (f n) ≤ n + 1
    have := sm_ind_le (f := f) n
    have : ind (f n) ≤ 1 := by unfold ind; split <;> omega
    omega
theorem Pr.M_le {p q c p' q' c' P M : Int} (R : Pr p q c p' q' c' P M) : 0 ≤ M ∧ M ≤ P := by
  have h := R.cnt
  have := sm_ind_le (f := fun k => hits p q c p' q' c' (k : Int)) P.toNat
  have := R.pos
  omega
theorem sumDw_zero {p q c p' q' c' g : Int} (hp : 0 < p) (hp' : 0 < p') (hq : 0 < q) (hq' : 0 < q') (hg : 0 < g) (d1 : g ∣ p) (d2 : g ∣ p') (h : sumDw p q c p' q' c' g = 0) (r : Int) (h0 : 0 ≤ r) (h1 : r < g) : ¬ (H g q c r = true ∧ H g q' c' r = true) := by
  unfold sumDw at h
  obtain ⟨_, z⟩ := sum_nonneg ((restsTo g).map fun r => dw p q c g r * dw p' q' c' g r) (fun x hx => by
    obtain ⟨y, _, rfl⟩ := List.mem_map.mp hx
    exact Int.mul_nonneg (dw_pos hp hq hg d1).2 (dw_pos hp' hq' hg d2).2)
  have hz := z h _ (List.mem_map.mpr ⟨r, mem_up.mpr ⟨h0, by omega⟩, rfl⟩)
  rintro ⟨a, b⟩
  rw [← (dw_pos (c := c) hp hq hg d1).1] at a
  rw [← (dw_pos (c := c') hp' hq' hg d2).1] at b
  have a' := of_decide_eq_true a
  have b' := of_decide_eq_true b
  have := Int.mul_pos a' b'
  omega
theorem rest_at {k r : Int} (r0 : 0 ≤ r) (r1 : r < k) (f : Int → Int) : L2.atI ((restsTo k).map fun r => D.int (f r)) r = some (.int (f r)) := by
  have hgt : (restsTo k)[r.toNat]? = some r := by
    unfold restsTo upI
    rw [List.getElem?_map, List.getElem?_range (by omega)]
    show some (0 + ((r.toNat : Nat) : Int)) = _
    congr 1
    omega
  have := at_nat (ds := (restsTo k).map fun r => D.int (f r)) (k := r.toNat) (x := .int (f r)) (by rw [List.getElem?_map, hgt]; rfl)
  rwa [show ((r.toNat : Nat) : Int) = r by omega] at this
section
variable {L n : Nat} {p q c p' q' c' : Int}
theorem ph_lc {s0 s1 s2 s5 s6 s7 s8 : Slot} {k : Int} (hp : 0 < p ∧ p ≤ 100000) (hq : 0 < q) (hk : 0 < k) :
    doC (C L n) (.bin .mul (.ixv 3 (.var 9)) (.ixv 4 (.var 9))) (.nm 9) (.cst (.bl true)) [9] ((restsTo k).map D.int)
      [s0, s1, s2, .own ((restsTo k).map fun r => .int (dw p q c k r)), .own ((restsTo k).map fun r => .int (dw p' q' c' k r)), s5, s6, s7, s8, .nil] [] =
      some ((restsTo k).map fun r => .int (dw p q c k r * dw p' q' c' k r), [s0, s1, s2, .own ((restsTo k).map fun r => .int (dw p q c k r)), .own ((restsTo k).map fun r => .int (dw p' q' c' k r)), s5, s6, s7, s8, .nil]) := by
  have := doC_ints (cl := C L n) (elt := .bin .mul (.ixv 3 (.var 9)) (.ixv 4 (.var 9))) (t := .nm 9) (cond := .cst (.bl true)) (vs := [9]) (env := [s0, s1, s2, .own ((restsTo k).map fun r => .int (dw p q c k r)), .own ((restsTo k).map fun r => .int (dw p' q' c' k r)), s5, s6, s7, s8, .nil]) (fun _ => true) (fun r => .int (dw p q c k r * dw p' q' c' k r)) (restsTo k) fun r hr => by
    have ⟨r0, r1⟩ := mem_rests hr
    have a1 := rest_at r0 r1 (dw p q c k)
    have a2 := rest_at r0 r1 (dw p' q' c' k)
    have hm : Pi.MulOk (dw p q c k r) (dw p' q' c' k r) := mulS (dw_le (by omega) hq hk (by omega))
    unfold stepC
    simp_arith [a1, a2, decide_eq_true hm]
  rw [List.filter_eq_self.mpr (fun _ _ => rfl)] at this
  exact this
theorem near_lc {s0 s1 s2 s3 s4 s5 s6 s7 : Slot} {k : Int} (hp : 0 < p) (hq : 0 < q) (hk : 0 < k) :
    doC (C L n) (.var 9) (.nm 9) (.and (.cmp .ne (.var 9) (.var 8)) (.cmp .ne (.var 9) (.bin .add (.var 8) (.cst (.int (1)))))) [9] ((restsTo k).map fun r => D.int (dw p q c k r))
      [s0, s1, s2, s3, s4, s5, s6, s7, .val (.int (min p q / k)), .nil] [] = some ([], [s0, s1, s2, s3, s4, s5, s6, s7, .val (.int (min p q / k)), .nil]) := by
  have := doC_ints (cl := C L n) (elt := .var 9) (t := .nm 9) (cond := .and (.cmp .ne (.var 9) (.var 8)) (.cmp .ne (.var 9) (.bin .add (.var 8) (.cst (.int (1)))))) (vs := [9]) (env := [s0, s1, s2, s3, s4, s5, s6, s7, .val (.int (min p q / k)), .nil]) (fun _ => false) D.int ((restsTo k).map fun r => dw p q c k r) fun x hx => by
    obtain ⟨r, _, rfl⟩ := List.mem_map.mp hx
    rcases dw_near (c := c) (r := r) hp hq hk with e | e
    · rw [e]
      unfold stepC
      simp_arith []
    · rw [e]
      have hne : (min p q / k + 1 == min p q / k) = false := beq_eq_false_iff_ne.mpr (by omega)
      unfold stepC
      simp_arith [hne]
  rw [List.map_map, List.filter_eq_nil_iff.mpr (by simp)] at this
  exact this
theorem shows_pm {P M : Int} (h1 : 0 ≤ P ∧ P ≤ 10 ^ 20) (h2 : 0 ≤ M ∧ M ≤ 10 ^ 20) : Shows (.tup [.int P, .int M]) := by
  apply shows_tup 1 (by omega)
  · show ([D.int P, D.int M].all (repS 0)) = true
    have e1 : repS 0 (.int P) = true := decide_eq_true (by omega)
    have e2 : repS 0 (.int M) = true := decide_eq_true (by omega)
    simp only [List.all_cons, List.all_nil, e1, e2, Bool.and_self]
  · show ([D.int P, D.int M].map (repLen 0)).sum + 2 * [D.int P, D.int M].length + 3 ≤ 16777216
    simp [repLen]
theorem s_periodHolds0 {g : Int} (hgg : (Int.gcd p p' : Int) = g) (G : GW 100000 p q c) (G' : GW 100000 p' q' c') (hL : 200000 < L) : C L (n+8) 42 [.val (W p q c), .val (W p' q' c')] = some (.val (.bl true), []) := by
  have g1 := G.p1; have g2 := G.p2; have g3 := G.q1; have g4 := G.q2; have h1 := G'.p1; have h2 := G'.p2; have h3 := G'.q1; have h4 := G'.q2
  have hg0 := gcd_pos (p := p) (p' := p') g1
  have dp := Int.gcd_dvd_left p p'
  have dp' := Int.gcd_dvd_right p p'
  have hle : (Int.gcd p p' : Int) ≤ p := Int.le_of_dvd (by omega) dp
  have hd := s_divisor (L := L) (n := n + 6) (a := p) (b := p') (by omega) (by
    have : (2 : Int) ^ 250 > 1000000 := by decide
    omega)
  have R := pr_of (p := p) (q := q) (c := c) (p' := p') (q' := q') (c' := c') (by omega) (by omega) (by omega) (by omega) G.g G'.g
  have ht := s_run2 (L := L) (j := 18) (s_together (L := L) (n := n) G G' hL)
  have r1 := s_rests (L := L) (n := n + 5) G hg0 dp
  have r2 := s_rests (L := L) (n := n + 5) G' hg0 dp'
  have hcg := cop_of G.g dp
  have hcg' := cop_of G'.g dp'
  have hz := sumDw_zero (c := c) (c' := c') (p := p) (q := q) (p' := p') (q' := q') (by omega) (by omega) (by omega) (by omega) hg0 dp dp'
  have hone : (Int.gcd p p' : Int) = 1 → sumDw p q c p' q' c' (Int.gcd p p') = min p q * min p' q' := fun e => by
    rw [e]
    unfold sumDw
    have hr : restsTo 1 = [0] := rfl
    rw [hr, List.map_cons, List.map_nil, List.sum_cons, List.sum_nil, dw_one (by omega) (by omega), dw_one (by omega) (by omega)]
    omega
  rw [hgg] at hg0 dp dp' hle hd ht r1 r2 hcg hcg' hz hone R
  have hs : decide (Small g ∧ g ≤ 16777216) = true := decide_eq_true ⟨⟨by omega, by omega⟩, by omega⟩
  have hr : rangeD 0 g.toNat = (restsTo g).map D.int := rangeD_up _ _
  have hl1 := ph_lc (L := L) (n := n + 7) (p := p) (q := q) (c := c) (p' := p') (q' := q') (c' := c') (s0 := .val (W p q c)) (s1 := .val (W p' q' c')) (s2 := .val (.int g)) (s5 := .nil) (s6 := .nil) (s7 := .nil) (s8 := .nil) (by omega) (by omega) hg0
  have hsum := sum_ints (xs := (restsTo g).map fun r => dw p q c g r * dw p' q' c' g r)
  rw [List.map_map] at hsum
  have hfn : (D.int ∘ fun r => dw p q c g r * dw p' q' c' g r) = fun r => D.int (dw p q c g r * dw p' q' c' g r) := rfl
  rw [hfn] at hsum
  rw [← hr] at hl1
  have hsd : ((restsTo g).map fun r => dw p q c g r * dw p' q' c' g r).sum = sumDw p q c p' q' c' g := rfl
  rw [hsd] at hsum
  have M0 := R.M_le
  have P0 := R.pos
  have P1 := R.le
  have pp : p * p' ≤ 100000 * 100000 := Int.mul_le_mul g2 h2 (by omega) (by omega)
  have heq := s_equal (L := L) (n := n + 5) (v := .tup [.int (p * p' / g), .int (sumDw p q c p' q' c' g)]) (by simp [D.nodes, D.nodesL]) (by simp [D.fnless, D.fnlessL]) (by simp [D.plain, D.plainL]) (shows_pm (by omega) (by omega))
  have hmm : Pi.MulOk p p' := mulS (by omega)
  have hmin : Pi.MulOk (min p q) (min p' q') := mulS (by omega)
  have hdg : DivOk g := divOk_of hg0 (by omega)
  have n1 : ∀ s3 s4 s5 s6 s7 : Slot, doC (C L (n + 7)) (.var 9) (.nm 9) (.and (.cmp .ne (.var 9) (.var 8)) (.cmp .ne (.var 9) (.bin .add (.var 8) (.cst (.int (1)))))) [9] ((restsTo g).map fun r => D.int (dw p q c g r)) [.val (W p q c), .val (W p' q' c'), .val (.int g), s3, s4, s5, s6, s7, .val (.int (min p q / g)), .nil] [] = some ([], [.val (W p q c), .val (W p' q' c'), .val (.int g), s3, s4, s5, s6, s7, .val (.int (min p q / g)), .nil]) := fun _ _ _ _ _ => near_lc (by omega) (by omega) hg0
  have n2 : ∀ s3 s4 s5 s6 s7 : Slot, doC (C L (n + 7)) (.var 9) (.nm 9) (.and (.cmp .ne (.var 9) (.var 8)) (.cmp .ne (.var 9) (.bin .add (.var 8) (.cst (.int (1)))))) [9] ((restsTo g).map fun r => D.int (dw p' q' c' g r)) [.val (W p q c), .val (W p' q' c'), .val (.int g), s3, s4, s5, s6, s7, .val (.int (min p' q' / g)), .nil] [] = some ([], [.val (W p q c), .val (W p' q' c'), .val (.int g), s3, s4, s5, s6, s7, .val (.int (min p' q' / g)), .nil]) := fun _ _ _ _ _ => near_lc (by omega) (by omega) hg0
  generalize hM : sumDw p q c p' q' c' g = M at *
  have c1 : g = 1 → (M == min p q * min p' q') = true := fun e => by rw [hone e]; simp
  have c2 : M = 0 → decide (g < q + q') = false := fun e => decide_eq_false (by
    have := disjoint_le (c := c) (c' := c') hg0 (show 0 < q by omega) (show 0 < q' by omega) hcg hcg' (hz e)
    omega)
  generalize ((restsTo g).map fun r => D.int (dw p q c g r * dw p' q' c' g r)) = zs at *
  generalize ((restsTo g).map fun r => D.int (dw p q c g r)) = xs at *
  generalize ((restsTo g).map fun r => D.int (dw p' q' c' g r)) = ys at *
  rw [call_to (d := b83d42) rfl]
  simp only [b83d42, b83_law_period_holds]
  by_cases eg : g = 1
  · have b1 : (g == 1) = true := by simpa using eg
    have b2 := c1 eg
    by_cases em : M = 0
    · have b3 : (M == 0) = true := by simpa using em
      have b4 := c2 em
      simp_arith [hd, r1, r2, hs, hl1, hsum, b1, b2, b3, b4, min_int, decide_eq_true hmin, f_cons, fdiv_int hdg, n1, n2, nil_ne, ht, heq, decide_eq_true hmm]
    · have b3 : (M == 0) = false := by simpa using em
      simp_arith [hd, r1, r2, hs, hl1, hsum, b1, b2, b3, min_int, decide_eq_true hmin, f_cons, fdiv_int hdg, n1, n2, nil_ne, ht, heq, decide_eq_true hmm]
  · have b1 : (g == 1) = false := by simpa using eg
    by_cases em : M = 0
    · have b3 : (M == 0) = true := by simpa using em
      have b4 := c2 em
      simp_arith [hd, r1, r2, hs, hl1, hsum, b1, b3, b4, min_int, f_cons, fdiv_int hdg, n1, n2, nil_ne, ht, heq, decide_eq_true hmm]
    · have b3 : (M == 0) = false := by simpa using em
      simp_arith [hd, r1, r2, hs, hl1, hsum, b1, b3, min_int, f_cons, fdiv_int hdg, n1, n2, nil_ne, ht, heq, decide_eq_true hmm]
theorem s_periodHolds (G : GW 100000 p q c) (G' : GW 100000 p' q' c') (hL : 200000 < L) : C L (n+8) 42 [.val (W p q c), .val (W p' q' c')] = some (.val (.bl true), []) := s_periodHolds0 rfl G G' hL
end
end K83

-- K83P8
set_option maxHeartbeats 4000000
namespace K83
open PySem Pi
theorem nx_eq {p q c d : Int} (hp : 0 < p) (hq : 0 < q) (h : H p q c d = true) : (p * (-((c - q * d) / p)) + c) / q = d := by
  obtain ⟨h1, h2, h3⟩ := nx_ok (p := p) (q := q) (c := c) (d := d) hp hq
  have e : nx p q c d = d := by
    rcases Int.lt_or_le d (nx p q c d) with z | z
    · rw [h3 d (Int.le_refl d) z] at h; cases h
    · omega
  exact e
inductive VOk : D → Prop where
  | one (k : Int) : 1 ≤ k → k ≤ 100000 → VOk (V1 k)
  | two (k : Int) : VOk (V2 k)
  | three (d e f : Int) : VOk (V3 d e f)
section
variable {L n : Nat} {p q c p' q' c' : Int}
theorem s_judge {v : D} (hv : VOk v) (G : GW 100000 p q c) (G' : GW 100000 p' q' c') (hL : 200000 < L) : ∃ b : Bool, C L (n+6) 20 [.val (W p q c), .val (W p' q' c'), .val v] = some (.val (.bl b), []) ∧ C L (n+7) 41 [.val (W p q c), .val (W p' q' c'), .val v] = some (.val (.bl b), []) := by
  cases hv with
  | one k k1 k2 => exact ⟨_, s_acc1 G G' hL k1 k2, s_one1 (n := n + 4) G G' k1 k2⟩
  | two k => exact ⟨_, s_acc2 G G' hL, s_one2 (n := n + 5)⟩
  | three d e f => exact ⟨_, s_acc3 G G' hL, s_one3 (n := n + 5) G G'⟩
def paperIn : CSs := (.cons (.ife (.not (.call 31 (.cons (.call 36 (.cons (.gf "accepts_both" 20) (.cons (.lst (.cons (.var 1) (.cons (.var 8) (.cons (.var 7) .nil)))) .nil)) []) (.cons (.call 41 (.cons (.var 1) (.cons (.var 8) (.cons (.var 7) .nil))) []) .nil)) [])) (.cons (.ret (.cst (.bl false))) .nil) .nil) .nil)
theorem paper_in {v : D} {p2 q2 c2 : Int} {s0 s2 s3 s4 s5 s6 s8 s9 : Slot} (hv : VOk v) (G : GW 100000 p q c) (G' : GW 100000 p2 q2 c2) (hL : 200000 < L) (h8 : nio s8 = true) :
    (bindO (bindTg (.nm 8) (W p2 q2 c2) [s0, .val (W p q c), s2, s3, s4, s5, s6, .val v, s8, s9]) fun e => evalSs (C L (n+7)) L paperIn e) = some (.nx [s0, .val (W p q c), s2, s3, s4, s5, s6, .val v, .val (W p2 q2 c2), s9]) := by
  obtain ⟨b, e1, e2⟩ := s_judge (L := L) (n := n) hv G G' hL
  have e3 := s_run3 e1
  have e4 := s_equalBl (L := L) (n := n + 5) (b := b)
  unfold paperIn
  simp_arith [e2, e3, e4, h8]
theorem paper_loop {p2 q2 c2 : Int} {s0 s4 s5 s6 s9 : Slot} (G : GW 100000 p q c) (G' : GW 100000 p' q' c') (G2 : GW 100000 p2 q2 c2) (hL : 200000 < L) : ∀ (vs : List D) (s7 s8 : Slot), (∀ v ∈ vs, VOk v) → nio s7 = true → nio s8 = true →
    ∃ s7' s8' : Slot, doF (C L (n+7)) L (.nm 7) (.cons (.fr (.nm 8) (.sq (.tup (.cons (.var 2) (.cons (.var 3) .nil)))) paperIn) .nil) vs [s0, .val (W p q c), .val (W p' q' c'), .val (W p2 q2 c2), s4, s5, s6, s7, s8, s9] = some (.nx [s0, .val (W p q c), .val (W p' q' c'), .val (W p2 q2 c2), s4, s5, s6, s7', s8', s9])
  | [], s7, s8, hv, h7, h8 => ⟨s7, s8, rfl⟩
  | v :: vs, s7, s8, hv, h7, h8 => by
    have hv1 := hv v List.mem_cons_self
    have i0 := paper_in (L := L) (n := n) (s0 := s0) (s2 := .val (W p' q' c')) (s3 := .val (W p2 q2 c2)) (s4 := s4) (s5 := s5) (s6 := s6) (s8 := s8) (s9 := s9) hv1 G G' hL h8
    have i1 := paper_in (L := L) (n := n) (s0 := s0) (s2 := .val (W p' q' c')) (s3 := .val (W p2 q2 c2)) (s4 := s4) (s5 := s5) (s6 := s6) (s8 := .val (W p' q' c')) (s9 := s9) hv1 G G2 hL rfl
    have hdo := (f_step (xs := [W p2 q2 c2]) i0).trans ((f_step (xs := []) i1).trans f_nil)
    obtain ⟨s7', s8', ih⟩ := paper_loop (s0 := s0) (s4 := s4) (s5 := s5) (s6 := s6) (s9 := s9) G G' G2 hL vs (.val v) (.val (W p2 q2 c2)) (fun w hw => hv w (List.mem_cons_of_mem _ hw)) rfl rfl
    refine ⟨s7', s8', ?_⟩
    rw [← ih, f_step]
    simp_arith [h7, hdo]
theorem divs_lc {s0 s1 s2 s3 s5 s6 s7 s8 : Slot} {g : Int} (xs : List Int) (hx : ∀ x ∈ xs, 1 ≤ x) : doC (C L n) (.var 9) (.nm 9) (.cmp .eq (.bin .mod (.bi .int (.cons (.var 4) .nil)) (.var 9)) (.cst (.int (0)))) [9] (xs.map D.int) [s0, s1, s2, s3, .val (.int g), s5, s6, s7, s8, .nil] [] = some ((xs.filter fun x => g % x == 0).map D.int, [s0, s1, s2, s3, .val (.int g), s5, s6, s7, s8, .nil]) :=
  doC_ints _ _ xs fun x hx' => by
    have h0 : 0 < x := by have := hx x hx'; omega
    cases k : (g % x == 0) <;> (unfold stepC; simp_arith [mod_int h0, k])
theorem s_paperHolds0 {g p2 q2 c2 : Int} {S : List D} (hgg : (Int.gcd p p' : Int) = g) (hS : Strm S) (G : GW 100000 p q c) (G' : GW 100000 p' q' c') (G2 : GW 100000 p2 q2 c2) (hL : 200000 < L) : ∃ S', Strm S' ∧ C L (n+8) 43 [.own S, .val (W p q c), .val (W p' q' c'), .val (W p2 q2 c2)] = some (.val (.bl true), [S']) := by
  have g1 := G.p1; have g2 := G.p2; have g3 := G.q1; have g4 := G.q2; have h1 := G'.p1; have h2 := G'.p2; have h3 := G'.q1; have h4 := G'.q2
  have hg0 := gcd_pos (p := p) (p' := p') g1
  have dp := Int.gcd_dvd_left p p'
  have dp' := Int.gcd_dvd_right p p'
  have hle : (Int.gcd p p' : Int) ≤ p := Int.le_of_dvd (by omega) dp
  have hd := s_divisor (L := L) (n := n + 6) (a := p) (b := p') (by omega) (by
    have : (2 : Int) ^ 250 > 1000000 := by decide
    omega)
  have hb := s_bothPaper (L := L) (n := n) G G' hL
  rw [hgg] at hg0 dp dp' hle hd hb
  have hs : decide (Small 1 ∧ Small (g + 1) ∧ g + 1 - 1 ≤ 16777216) = true := smallR (by omega) (by omega) (by omega) (by omega) (by omega)
  have hr : rangeD 1 (g + 1 - 1).toNat = (upI 1 g.toNat).map D.int := by
    rw [show (g + 1 - 1).toNat = g.toNat by congr 1; omega]
    exact rangeD_up _ _
  have hdl : ∀ told : D, doC (C L (n+7)) (.var 9) (.nm 9) (.cmp .eq (.bin .mod (.bi .int (.cons (.var 4) .nil)) (.var 9)) (.cst (.int (0)))) [9] ((upI 1 g.toNat).map D.int) [.io S, .val (W p q c), .val (W p' q' c'), .val (W p2 q2 c2), .val (.int g), .val told, .nil, .nil, .nil, .nil] [] = some (((upI 1 g.toNat).filter fun x => g % x == 0).map D.int, [.io S, .val (W p q c), .val (W p' q' c'), .val (W p2 q2 c2), .val (.int g), .val told, .nil, .nil, .nil, .nil]) := fun told =>
    divs_lc _ fun x hx => (mem_up.mp hx).1
  obtain ⟨x, S', p1, s1, m1⟩ := s_pick (L := L) (n := n + 5) (S := S) (ds := ((upI 1 g.toNat).filter fun x => g % x == 0).map D.int) hS (by
    have h1 : (1 : Int) ∈ (upI 1 g.toNat).filter fun x => g % x == 0 := List.mem_filter.mpr ⟨mem_up.mpr ⟨Int.le_refl 1, by omega⟩, by simp⟩
    intro z
    have := List.mem_map_of_mem (f := D.int) h1
    rw [z] at this
    cases this) (by
    rw [List.length_map]
    have := List.length_filter_le (fun x => g % x == 0) (upI 1 g.toNat)
    rw [up_length] at this
    omega)
  obtain ⟨k, hk, rfl⟩ := List.mem_map.mp m1
  have hk1 := mem_up.mp (List.mem_filter.mp hk).1
  have fin : ∀ (told : D) (vs : List D), (∀ v ∈ vs, VOk v) → ∃ s7 s8 : Slot, doF (C L (n+7)) L (.nm 7) (.cons (.fr (.nm 8) (.sq (.tup (.cons (.var 2) (.cons (.var 3) .nil)))) paperIn) .nil) vs [.io S', .val (W p q c), .val (W p' q' c'), .val (W p2 q2 c2), .val (.int g), .val told, .val (.ls vs), .nil, .nil, .nil] = some (.nx [.io S', .val (W p q c), .val (W p' q' c'), .val (W p2 q2 c2), .val (.int g), .val told, .val (.ls vs), s7, s8, .nil]) := fun told vs hv => paper_loop G G' G2 hL vs .nil .nil hv rfl rfl
  generalize (((upI 1 g.toNat).filter fun x => g % x == 0).map D.int) = divs at *
  refine ⟨S', s1, ?_⟩
  rcases hb with ⟨hn, hb⟩ | ⟨hn, d, d0, d1, d2, d3, hb⟩
  · have hj := s_one1 (L := L) (n := n + 4) (k := g) G G' (by omega) (by omega)
    have hjt : j1 p q c p' q' c' g = true := by
      unfold j1
      rw [hn, Int.emod_eq_zero_of_dvd dp, Int.emod_eq_zero_of_dvd dp']
      rfl
    rw [hjt] at hj
    obtain ⟨s7, s8, hf⟩ := fin (V1 g) [V1 g, V1 g, V1 1, V1 k, V2 g] (fun v hv => by
      simp only [List.mem_cons, List.not_mem_nil, or_false] at hv
      rcases hv with rfl | rfl | rfl | rfl | rfl
      · exact .one _ (by omega) (by omega)
      · exact .one _ (by omega) (by omega)
      · exact .one _ (by omega) (by omega)
      · exact .one _ (by omega) (by omega)
      · exact .two _)
    have hb' := s_run2 hb
    have had : evalBin .add (.tup [.str "both"]) (.tup [.int g]) = some (.val (.tup [.str "both", .int g])) := rfl
    have hdl' := hdl (V1 g)
    unfold paperIn at hf
    simp only [V1, V2] at hf hj hdl'
    rw [call_to (d := b83d43) rfl]
    simp only [b83d43, b83_law_paper_holds]
    simp_arith [hd, hb', hj, hs, hr, hdl', p1, sl_tup part_int part_non, ct2, had, hf]
  · have hj := s_one3 (L := L) (n := n + 5) (d := d) (e := -((c - q * d) / p)) (f := -((c' - q' * d) / p')) G G'
    have hjt : j3 p q c p' q' c' d (-((c - q * d) / p)) (-((c' - q' * d) / p')) = true := by
      unfold j3
      rw [nx_eq (by omega) (by omega) d2, nx_eq (by omega) (by omega) d3]
      simp
    rw [hjt] at hj
    generalize -((c - q * d) / p) = e at *
    generalize -((c' - q' * d) / p') = f at *
    obtain ⟨s7, s8, hf⟩ := fin (V3 d e f) [V3 d e f, V1 g, V1 1, V1 k, V3 d e f] (fun v hv => by
      simp only [List.mem_cons, List.not_mem_nil, or_false] at hv
      rcases hv with rfl | rfl | rfl | rfl | rfl
      · exact .three _ _ _
      · exact .one _ (by omega) (by omega)
      · exact .one _ (by omega) (by omega)
      · exact .one _ (by omega) (by omega)
      · exact .three _ _ _)
    have hb' := s_run2 hb
    have had : evalBin .add (.tup [.str "both"]) (.tup [.int d, .int e, .int f]) = some (.val (.tup [.str "both", .int d, .int e, .int f])) := rfl
    have hdl' := hdl (V3 d e f)
    unfold paperIn at hf
    simp only [V1, V3] at hf hj hdl'
    rw [call_to (d := b83d43) rfl]
    simp only [b83d43, b83_law_paper_holds]
    simp_arith [hd, hb', hj, hs, hr, hdl', p1, sl_tup part_int part_non, ct4, had, hf]
theorem s_paperHolds {p2 q2 c2 : Int} {S : List D} (hS : Strm S) (G : GW 100000 p q c) (G' : GW 100000 p' q' c') (G2 : GW 100000 p2 q2 c2) (hL : 200000 < L) : ∃ S', Strm S' ∧ C L (n+8) 43 [.own S, .val (W p q c), .val (W p' q' c'), .val (W p2 q2 c2)] = some (.val (.bl true), [S']) := s_paperHolds0 rfl hS G G' G2 hL
end
end K83

-- K83P9
set_option maxHeartbeats 4000000
namespace K83
open PySem Pi
theorem nodes_ints : ∀ (xs : List Int), D.nodesL (xs.map D.int) = xs.length
  | [] => rfl
  | x :: xs => by
    have h : (D.int x).nodes = 1 := by simp [D.nodes]
    rw [List.map_cons, D.nodesL, nodes_ints xs, h, List.length_cons]
    omega
theorem plain_ints : ∀ (xs : List Int), D.plainL (xs.map D.int) = true ∧ D.fnlessL (xs.map D.int) = true
  | [] => ⟨rfl, rfl⟩
  | x :: xs => by rw [List.map_cons, D.plainL, D.fnlessL, (plain_ints xs).1, (plain_ints xs).2]; exact ⟨rfl, rfl⟩
theorem len_const {α : Type} (f : α → Nat) (c : Nat) : ∀ (xs : List α), (∀ x ∈ xs, f x ≤ c) → (xs.map f).sum ≤ xs.length * c
  | [], _ => by simp
  | x :: xs, h => by
    rw [List.map_cons, List.sum_cons, List.length_cons, Nat.succ_mul]
    have h1 := h x List.mem_cons_self
    have h2 := len_const f c xs fun y hy => h y (List.mem_cons_of_mem _ hy)
    omega
theorem shows_ints {xs : List Int} (h : ∀ x ∈ xs, -(10 ^ 60) ≤ x ∧ x ≤ 10 ^ 60) (hl : xs.length ≤ 20000) : Shows (.tup (xs.map D.int)) := by
  apply shows_tup 1 (by omega)
  · show ((xs.map D.int).all (repS 0)) = true
    rw [List.all_eq_true]
    intro d hd
    obtain ⟨x, hx, rfl⟩ := List.mem_map.mp hd
    exact decide_eq_true (h x hx)
  · show ((xs.map D.int).map (repLen 0)).sum + 2 * (xs.map D.int).length + 3 ≤ 16777216
    rw [List.map_map, List.length_map]
    have := len_const (repLen 0 ∘ D.int) 201 xs fun x _ => Nat.le_refl _
    omega
def row (p q c p' q' c' d : Int) : D := .tup [.int d, .int (ev p q c d), .int (ev p' q' c' d)]
theorem nodes_rows {f : Int → D} (hf : ∀ x, (f x).nodes = 4) : ∀ (xs : List Int), D.nodesL (xs.map f) = 4 * xs.length
  | [] => rfl
  | x :: xs => by rw [List.map_cons, D.nodesL, nodes_rows hf xs, hf, List.length_cons]; omega
theorem plain_rows {f : Int → D} (hf : ∀ x, (f x).plain = true ∧ (f x).fnless = true) : ∀ (xs : List Int), D.plainL (xs.map f) = true ∧ D.fnlessL (xs.map f) = true
  | [] => ⟨rfl, rfl⟩
  | x :: xs => by rw [List.map_cons, D.plainL, D.fnlessL, (plain_rows hf xs).1, (plain_rows hf xs).2, (hf x).1, (hf x).2]; exact ⟨rfl, rfl⟩
theorem ev_le {p q c d : Int} (hp : 0 < p) (hq : 0 < q) : 0 ≤ ev p q c d ∧ ev p q c d ≤ q := by
  refine ⟨(ev_H hp hq).2, ?_⟩
  unfold ev
  have e : q * d - 1 - c = (q * d + q - 1 - c) - q := by omega
  rw [e]
  generalize q * d + q - 1 - c = X
  have h1 : (X + (-q) * p) / p = X / p + (-q) := Int.add_mul_ediv_right X (-q) (by omega)
  have h2 : q * 1 ≤ q * p := Int.mul_le_mul_of_nonneg_left (by omega) (by omega)
  have h3 : (X + (-q) * p) / p ≤ (X - q) / p := Int.ediv_le_ediv hp (by rw [Int.neg_mul]; omega)
  omega
theorem shows_rows {p q c p' q' c' : Int} {xs : List Int} (h1 : 0 < p ∧ 0 < q ∧ q ≤ 100000) (h2 : 0 < p' ∧ 0 < q' ∧ q' ≤ 100000) (h : ∀ x ∈ xs, -(10 ^ 60) ≤ x ∧ x ≤ 10 ^ 60) (hl : xs.length ≤ 20000) : Shows (.tup (xs.map (row p q c p' q' c'))) := by
  apply shows_tup 2 (by omega)
  · show ((xs.map (row p q c p' q' c')).all (repS 1)) = true
    rw [List.all_eq_true]
    intro d hd
    obtain ⟨x, hx, rfl⟩ := List.mem_map.mp hd
    have a := ev_le (c := c) (d := x) h1.1 h1.2.1
    have b := ev_le (c := c') (d := x) h2.1 h2.2.1
    show ([D.int x, .int (ev p q c x), .int (ev p' q' c' x)].all (repS 0)) = true
    have e1 : repS 0 (.int x) = true := decide_eq_true (h x hx)
    have e2 : repS 0 (.int (ev p q c x)) = true := decide_eq_true (by omega)
    have e3 : repS 0 (.int (ev p' q' c' x)) = true := decide_eq_true (by omega)
    simp only [List.all_cons, List.all_nil, e1, e2, e3, Bool.and_self]
  · show ((xs.map (row p q c p' q' c')).map (repLen 1)).sum + 2 * (xs.map (row p q c p' q' c')).length + 3 ≤ 16777216
    rw [List.map_map, List.length_map]
    have := len_const (repLen 1 ∘ row p q c p' q' c') 612 xs fun x _ => by
      show repLen 1 (row p q c p' q' c' x) ≤ 612
      simp [row, repLen]
    omega
section
variable {L n : Nat} {p q c p' q' c' : Int}
theorem rows_lc {s0 s3 s4 s5 s7 : Slot} (hp : 0 < p ∧ p ≤ 100000) (hq : 0 < q ∧ q ≤ 100000) (hp' : 0 < p' ∧ p' ≤ 100000) (hq' : 0 < q' ∧ q' ≤ 100000) (xs : List Int) : doC (C L (n+1)) (.tup (.cons (.var 6) (.cons (.call 39 (.cons (.var 1) (.cons (.var 6) .nil)) []) (.cons (.call 39 (.cons (.var 2) (.cons (.var 6) .nil)) []) .nil)))) (.nm 6) (.cst (.bl true)) [6] (xs.map D.int) [s0, .val (W p q c), .val (W p' q' c'), s3, s4, s5, .nil, s7] [] = some (xs.map (row p q c p' q' c'), [s0, .val (W p q c), .val (W p' q' c'), s3, s4, s5, .nil, s7]) := by
  have := doC_ints (cl := C L (n+1)) (elt := .tup (.cons (.var 6) (.cons (.call 39 (.cons (.var 1) (.cons (.var 6) .nil)) []) (.cons (.call 39 (.cons (.var 2) (.cons (.var 6) .nil)) []) .nil)))) (t := .nm 6) (cond := .cst (.bl true)) (vs := [6]) (env := [s0, .val (W p q c), .val (W p' q' c'), s3, s4, s5, .nil, s7]) (fun _ => true) (row p q c p' q' c') xs fun x _ => by
    have e1 := s_many (L := L) (n := n) (p := p) (q := q) (c := c) (d := x) (by omega) hp.1 hp.2
    have e2 := s_many (L := L) (n := n) (p := p') (q := q') (c := c') (d := x) (by omega) hp'.1 hp'.2
    unfold stepC row
    simp_arith [e1, e2]
  rw [List.filter_eq_self.mpr (fun _ _ => rfl)] at this
  exact this
theorem fm_rows {f : Int → Bool} {g : Int → D} {h : D → Option D} : ∀ (xs : List Int), (∀ x, h (row p q c p' q' c' x) = if f x = true then some (g x) else none) → (xs.map (row p q c p' q' c')).filterMap h = (xs.filter f).map g
  | [], _ => rfl
  | x :: xs, hh => by
    rw [List.map_cons, List.filterMap_cons, List.filter_cons, hh x]
    cases hf : f x
    · simp only [Bool.false_eq_true, if_false]
      exact fm_rows xs hh
    · simp only [if_true]
      rw [fm_rows xs hh]
      rfl
theorem one_rows {s0 s1 s2 s3 s4 s6 : Slot} (hp : 0 < p) (hq : 0 < q) (hp' : 0 < p') (hq' : 0 < q') (xs : List Int) : doC (C L n) (.ixv 7 (.cst (.int (0)))) (.nm 7) (.and (.cmp .gt (.ixv 7 (.cst (.int (1)))) (.cst (.int (0)))) (.cmp .gt (.ixv 7 (.cst (.int (2)))) (.cst (.int (0))))) [7] (xs.map (row p q c p' q' c')) [s0, s1, s2, s3, s4, .val (.ls (xs.map (row p q c p' q' c'))), s6, .nil] [] = some ((xs.filter (hits p q c p' q' c')).map D.int, [s0, s1, s2, s3, s4, .val (.ls (xs.map (row p q c p' q' c'))), s6, .nil]) := by
  generalize D.ls (xs.map (row p q c p' q' c')) = w
  have := doC_pure (cl := C L n) (elt := .ixv 7 (.cst (.int (0)))) (t := .nm 7) (cond := .and (.cmp .gt (.ixv 7 (.cst (.int (1)))) (.cst (.int (0)))) (.cmp .gt (.ixv 7 (.cst (.int (2)))) (.cst (.int (0))))) (vs := [7]) (env := [s0, s1, s2, s3, s4, .val w, s6, .nil])
    (fun x => match x with | .tup [.int d, .int y, .int z] => if (decide (0 < y) && decide (0 < z)) = true then some (.int d) else none | _ => none) (xs.map (row p q c p' q' c')) [] (fun x hx => by
      obtain ⟨d, _, rfl⟩ := List.mem_map.mp hx
      unfold row
      cases k1 : decide (0 < ev p q c d) <;> cases k2 : decide (0 < ev p' q' c' d) <;> (unfold stepC; simp_arith [k1, k2]))
  rw [this, List.nil_append]
  congr 2
  apply fm_rows
  intro x
  unfold row hits
  simp only
  rw [(ev_H hp hq).1, (ev_H hp' hq').1]
theorem all_rows {s0 s1 s2 s3 s4 s6 : Slot} {w : D} (xs : List Int) : doC (C L n) (.var 7) (.nm 7) (.cmp .gt (.bin .add (.ixv 7 (.cst (.int (1)))) (.ixv 7 (.cst (.int (2))))) (.cst (.int (0)))) [7] (xs.map (row p q c p' q' c')) [s0, s1, s2, s3, s4, .val w, s6, .nil] [] = some ((xs.filter fun d => decide (0 < ev p q c d + ev p' q' c' d)).map (row p q c p' q' c'), [s0, s1, s2, s3, s4, .val w, s6, .nil]) := by
  have := doC_pure (cl := C L n) (elt := .var 7) (t := .nm 7) (cond := .cmp .gt (.bin .add (.ixv 7 (.cst (.int (1)))) (.ixv 7 (.cst (.int (2))))) (.cst (.int (0)))) (vs := [7]) (env := [s0, s1, s2, s3, s4, .val w, s6, .nil])
    (fun x => match x with | .tup [.int d, .int y, .int z] => if decide (0 < y + z) = true then some (.tup [.int d, .int y, .int z]) else none | _ => none) (xs.map (row p q c p' q' c')) [] (fun x hx => by
      obtain ⟨d, _, rfl⟩ := List.mem_map.mp hx
      unfold row
      cases k1 : decide (0 < ev p q c d + ev p' q' c' d) <;> (unfold stepC; simp_arith [k1]))
  rw [this, List.nil_append]
  congr 2
  apply fm_rows
  intro x
  rfl
theorem s_farDays {a : Int} {S : List D} (hS : Strm S) (G : GW 300 p q c) (G' : GW 300 p' q' c') (hL : 200000 < L) (a1 : -(10 ^ 15) < a) (a2 : a ≤ 10 ^ 15 - 1000000) : ∃ S', Strm S' ∧ C L (n+8) 44 [.own S, .val (W p q c), .val (W p' q' c'), .val (.int a)] = some (.val (.bl true), [S']) := by
  have g1 := G.p1; have g2 := G.p2; have g3 := G.q1; have g4 := G.q2; have h1 := G'.p1; have h2 := G'.p2; have h3 := G'.q1; have h4 := G'.q2
  have pow4 : evalBin .pow (.int 10) (.int 4) = some (.val (.int 10000)) := by rfl
  obtain ⟨x, S', p1, s1, m1⟩ := s_pick (L := L) (n := n + 5) (S := S) (ds := [.int 100, .int 1000, .int 10000]) hS (by simp) (by simp)
  have hx : ∃ m : Int, x = .int m ∧ 100 ≤ m ∧ m ≤ 10000 := by
    simp only [List.mem_cons, List.not_mem_nil, or_false] at m1
    rcases m1 with rfl | rfl | rfl <;> exact ⟨_, rfl, by omega, by omega⟩
  obtain ⟨m, rfl, m0, m9⟩ := hx
  refine ⟨S', s1, ?_⟩
  have e1 := s_run4 (s_bothIn (L := L) (n := n) (a := a) (b := a + m - 1) G G' hL (by omega) (by omega) (by omega) (by omega) (by omega) (by omega))
  have e2 := s_run4 (s_merged (L := L) (n := n) (a := a) (b := a + m - 1) G G' hL (by omega) (by omega) (by omega) (by omega) (by omega) (by omega))
  have hs := smallR (a := a) (b := a + m - 1 + 1) (by omega) (by omega) (by omega) (by omega) (by omega)
  have hlen : (upI a (a + m - 1 + 1 - a).toNat).length ≤ 10000 := by rw [up_length]; omega
  have hmem : ∀ x ∈ upI a (a + m - 1 + 1 - a).toNat, -(10 ^ 60) ≤ x ∧ x ≤ 10 ^ 60 := fun x hx => by
    have := mem_up.mp hx
    omega
  have hr : rangeD a (a + m - 1 + 1 - a).toNat = (upI a (a + m - 1 + 1 - a).toNat).map D.int := rangeD_up _ _
  unfold cdays at e1
  generalize upI a (a + m - 1 + 1 - a).toNat = xs at *
  have f1 : (xs.filter (hits p q c p' q' c')).length ≤ 10000 := Nat.le_trans (List.length_filter_le _ _) hlen
  have f2 : (xs.filter fun d => decide (0 < ev p q c d + ev p' q' c' d)).length ≤ 10000 := Nat.le_trans (List.length_filter_le _ _) hlen
  have q1 := s_equal (L := L) (n := n + 5) (v := .tup ((xs.filter (hits p q c p' q' c')).map D.int)) (by rw [D.nodes, nodes_ints]; omega) (by rw [D.fnless]; exact (plain_ints _).2) (by rw [D.plain]; exact (plain_ints _).1) (shows_ints (fun x hx => hmem x (List.mem_filter.mp hx).1) (by omega))
  have hrow : ∀ x, (row p q c p' q' c' x).plain = true ∧ (row p q c p' q' c' x).fnless = true := fun x => by simp [row, D.plain, D.plainL, D.fnless, D.fnlessL]
  have q2 := s_equal (L := L) (n := n + 5) (v := .tup ((xs.filter fun d => decide (0 < ev p q c d + ev p' q' c' d)).map (row p q c p' q' c'))) (by
    rw [D.nodes, nodes_rows (fun x => by simp [row, D.nodes, D.nodesL])]; omega) (by rw [D.fnless]; exact (plain_rows hrow _).2) (by rw [D.plain]; exact (plain_rows hrow _).1) (shows_rows (by omega) (by omega) (fun x hx => hmem x (List.mem_filter.mp hx).1) (by omega))
  have l1 := rows_lc (L := L) (n := n + 6) (p := p) (q := q) (c := c) (p' := p') (q' := q') (c' := c') (s0 := .io S') (s3 := .val (.int a)) (s4 := .val (.int (a + m - 1))) (s5 := .nil) (s7 := .nil) (by omega) (by omega) (by omega) (by omega) xs
  have l2 := one_rows (L := L) (n := n + 7) (p := p) (q := q) (c := c) (p' := p') (q' := q') (c' := c') (s0 := .io S') (s1 := .val (W p q c)) (s2 := .val (W p' q' c')) (s3 := .val (.int a)) (s4 := .val (.int (a + m - 1))) (s6 := .nil) (by omega) (by omega) (by omega) (by omega) xs
  have l3 := all_rows (L := L) (n := n + 7) (p := p) (q := q) (c := c) (p' := p') (q' := q') (c' := c') (s0 := .io S') (s1 := .val (W p q c)) (s2 := .val (W p' q' c')) (s3 := .val (.int a)) (s4 := .val (.int (a + m - 1))) (s6 := .nil) (w := .ls (xs.map (row p q c p' q' c'))) xs
  have e2' : C L (n+7) 36 [.val (.fn 25), .val (.ls [W p q c, W p' q' c', .int a, .int (a + m - 1)])] = some (.val (.tup ((xs.filter fun d => decide (0 < ev p q c d + ev p' q' c' d)).map (row p q c p' q' c'))), []) := e2
  clear e2
  generalize xs.map (row p q c p' q' c') = rws at *
  generalize (xs.filter (hits p q c p' q' c')).map D.int = ys at *
  generalize ((xs.filter fun d => decide (0 < ev p q c d + ev p' q' c' d)).map (row p q c p' q' c')) = zs at *
  rw [call_to (d := b83d44) rfl]
  simp only [b83d44, b83_law_far_days_hold]
  simp_arith [pow4, p1, hs, hr, l1, e1, l2, tuple_ls, q1, l3, e2', q2]
end
end K83

-- K83P10
set_option maxHeartbeats 8000000
namespace K83
open PySem Pi
def lS0 : CS := (.asg (.nm 1) (.call 27 (.cons (.var 0) .nil) []))
def lS1 : CS := (.asg (.tp [2, 3]) (.ife (.cmp .eq (.call 28 (.cons (.io 1) (.cons (.cst (.int (2))) .nil)) []) (.cst (.int (0)))) (.call 35 (.cons (.io 1) (.cons (.call 29 (.cons (.io 1) (.cons (.lst (.cons (.cst (.int (1000))) (.cons (.bin .pow (.cst (.int (10))) (.cst (.int (5)))) .nil))) .nil)) []) .nil)) []) (.call 38 (.cons (.io 1) (.cons (.bin .pow (.cst (.int (10))) (.cst (.int (5)))) .nil)) [])))
def lS2 : CS := (.ife (.or (.not (.call 42 (.cons (.var 2) (.cons (.var 3) .nil)) [])) (.not (.call 43 (.cons (.io 1) (.cons (.var 2) (.cons (.var 3) (.cons (.ix (.call 35 (.cons (.io 1) (.cons (.bin .pow (.cst (.int (10))) (.cst (.int (5)))) .nil)) []) (.cst (.int (0)))) .nil)))) []))) (.cons (.ret (.cst (.bl false))) .nil) .nil)
def lB1 : CS := (.asg (.tp [2, 3]) (.ife (.cmp .gt (.call 28 (.cons (.io 1) (.cons (.cst (.int (3))) .nil)) []) (.cst (.int (0)))) (.call 35 (.cons (.io 1) (.cons (.call 29 (.cons (.io 1) (.cons (.lst (.cons (.cst (.int (40))) (.cons (.cst (.int (300))) .nil))) .nil)) []) .nil)) []) (.call 38 (.cons (.io 1) (.cons (.cst (.int (300))) .nil)) [])))
def lB2 : CS := (.ife (.or (.not (.call 42 (.cons (.var 2) (.cons (.var 3) .nil)) [])) (.not (.call 43 (.cons (.io 1) (.cons (.var 2) (.cons (.var 3) (.cons (.ix (.call 35 (.cons (.io 1) (.cons (.cst (.int (300))) .nil)) []) (.cst (.int (0)))) .nil)))) []))) (.cons (.ret (.cst (.bl false))) .nil) .nil)
def lB3 : CS := (.asg (.nm 5) (.call 36 (.cons (.gf "together_period" 18) (.cons (.lst (.cons (.var 2) (.cons (.var 3) .nil))) .nil)) []))
def lB4 : CS := (.asg (.nm 6) (.call 29 (.cons (.io 1) (.cons (.lst (.cons (.cst (.int (0))) (.cons (.call 28 (.cons (.io 1) (.cons (.bin .pow (.cst (.int (10))) (.cst (.int (6)))) .nil)) []) (.cons (.bin .sub (.cst (.int (1))) (.bin .pow (.cst (.int (10))) (.cst (.int (15))))) (.cons (.bin .sub (.bin .pow (.cst (.int (10))) (.cst (.int (15)))) (.bin .pow (.cst (.int (10))) (.cst (.int (6))))) .nil))))) .nil)) []))
def lB5 : CS := (.asg (.nm 7) (.call 36 (.cons (.gf "next_both" 24) (.cons (.lst (.cons (.var 2) (.cons (.var 3) (.cons (.var 6) .nil)))) .nil)) []))
def lB6 : CS := (.ife (.or (.cmp .ne (.isN false (.var 7)) (.cmp .eq (.ixv 5 (.cst (.int (1)))) (.cst (.int (0))))) (.not (.call 31 (.cons (.call 36 (.cons (.gf "next_both" 24) (.cons (.lst (.cons (.var 3) (.cons (.var 2) (.cons (.var 6) .nil)))) .nil)) []) (.cons (.var 7) .nil)) []))) (.cons (.ret (.cst (.bl false))) .nil) .nil)
def lB7 : CS := (.ife (.isN true (.var 7)) (.cons (.ife (.or (.not (.call 32 (.cons (.var 7) .nil) [])) (.or (.cmp .lt (.var 7) (.var 6)) (.or (.not (.call 37 (.cons (.var 2) (.cons (.var 7) .nil)) [])) (.not (.call 37 (.cons (.var 3) (.cons (.var 7) .nil)) []))))) (.cons (.ret (.cst (.bl false))) .nil) .nil) (.cons (.ife (.and (.cmp .gt (.var 7) (.var 6)) (.cmp .ne (.call 36 (.cons (.gf "count_both" 26) (.cons (.lst (.cons (.var 2) (.cons (.var 3) (.cons (.var 6) (.cons (.bin .sub (.var 7) (.cst (.int (1)))) .nil))))) .nil)) []) (.cst (.int (0))))) (.cons (.ret (.cst (.bl false))) .nil) .nil) .nil)) .nil)
def lB8 : CS := (.asg (.nm 8) (.call 28 (.cons (.io 1) (.cons (.cst (.int (5))) .nil)) []))
def lB9 : CS := (.ife (.not (.call 31 (.cons (.call 36 (.cons (.gf "count_both" 26) (.cons (.lst (.cons (.var 2) (.cons (.var 3) (.cons (.var 6) (.cons (.bin .sub (.bin .add (.var 6) (.bin .mul (.var 8) (.ixv 5 (.cst (.int (0)))))) (.cst (.int (1)))) .nil))))) .nil)) []) (.cons (.bin .mul (.var 8) (.ixv 5 (.cst (.int (1))))) .nil)) [])) (.cons (.ret (.cst (.bl false))) .nil) .nil)
def lB10 : CS := (.asl [9, 10] (.cons (.bin .add (.var 6) (.call 28 (.cons (.io 1) (.cons (.cst (.int (2000))) .nil)) [])) (.cons (.bin .add (.bin .add (.var 6) (.cst (.int (2000)))) (.call 28 (.cons (.io 1) (.cons (.cst (.int (500))) .nil)) [])) .nil)))
def lB11 : CS := (.asg (.nm 11) (.bi .len (.cons (.lc (.var 15) (.nm 15) (.rg2 (.var 6) (.bin .add (.var 10) (.cst (.int (1))))) (.and (.call 37 (.cons (.var 2) (.cons (.var 15) .nil)) []) (.call 37 (.cons (.var 3) (.cons (.var 15) .nil)) [])) [15]) .nil)))
def lB12 : CS := (.asg (.nm 12) (.tup (.cons (.call 36 (.cons (.gf "count_both" 26) (.cons (.lst (.cons (.var 2) (.cons (.var 3) (.cons (.var 6) (.cons (.var 9) .nil))))) .nil)) []) (.cons (.call 36 (.cons (.gf "count_both" 26) (.cons (.lst (.cons (.var 2) (.cons (.var 3) (.cons (.bin .add (.var 9) (.cst (.int (1)))) (.cons (.var 10) .nil))))) .nil)) []) .nil))))
def lB13 : CS := (.ife (.or (.not (.call 31 (.cons (.call 36 (.cons (.gf "count_both" 26) (.cons (.lst (.cons (.var 2) (.cons (.var 3) (.cons (.var 6) (.cons (.var 10) .nil))))) .nil)) []) (.cons (.var 11) .nil)) [])) (.cmp .ne (.bin .add (.ixv 12 (.cst (.int (0)))) (.ixv 12 (.cst (.int (1))))) (.var 11))) (.cons (.ret (.cst (.bl false))) .nil) .nil)
def lB14 : CS := (.asg (.nm 13) (.lc (.tup (.cons (.var 16) (.cons (.var 17) (.cons (.bin .add (.var 18) (.bin .mul (.cst (.int (7))) (.var 17))) .nil)))) (.tp [16, 17, 18]) (.sq (.tup (.cons (.var 2) (.cons (.var 3) .nil)))) (.cst (.bl true)) [16, 17, 18]))
def lB15 : CS := (.asg (.nm 14) (.bi .len (.cons (.lc (.var 15) (.nm 15) (.rg2 (.bin .sub (.var 6) (.cst (.int (7)))) (.bin .sub (.var 10) (.cst (.int (13))))) (.and (.call 37 (.cons (.var 2) (.cons (.var 15) .nil)) []) (.call 37 (.cons (.var 3) (.cons (.var 15) .nil)) [])) [15]) .nil)))
def lB16 : CS := (.ife (.or (.not (.call 31 (.cons (.call 36 (.cons (.gf "count_both" 26) (.cons (.bin .add (.var 13) (.lst (.cons (.var 6) (.cons (.bin .sub (.var 10) (.cst (.int (7)))) .nil)))) .nil)) []) (.cons (.var 14) .nil)) [])) (.not (.call 31 (.cons (.call 36 (.cons (.gf "count_both" 26) (.cons (.lst (.cons (.var 2) (.cons (.var 3) (.cons (.var 10) (.cons (.bin .sub (.var 6) (.cst (.int (1)))) .nil))))) .nil)) []) (.cons (.cst (.int (0))) .nil)) []))) (.cons (.ret (.cst (.bl false))) .nil) .nil)
def lB17 : CS := (.ife (.and (.cmp .eq (.var 4) (.cst (.int (0)))) (.not (.call 44 (.cons (.io 1) (.cons (.var 2) (.cons (.var 3) (.cons (.var 6) .nil)))) []))) (.cons (.ret (.cst (.bl false))) .nil) .nil)
def lawBody : CSs := (.cons lB1 (.cons lB2 (.cons lB3 (.cons lB4 (.cons lB5 (.cons lB6 (.cons lB7 (.cons lB8 (.cons lB9 (.cons lB10 (.cons lB11 (.cons lB12 (.cons lB13 (.cons lB14 (.cons lB15 (.cons lB16 (.cons lB17 .nil)))))))))))))))))
def lS3 : CS := (.fr (.nm 4) (.rg1 (.cst (.int (2)))) lawBody)
def lS4 : CS := (.ret (.cst (.bl true)))
theorem law_is : b83law = (.cons lS0 (.cons lS1 (.cons lS2 (.cons lS3 (.cons lS4 .nil))))) := rfl
theorem ss_nx {cl : Oracle} {L : Nat} {s : CS} {ss : CSs} {env e : En} (h : evalS cl L s env = some (.nx e)) : evalSs cl L (.cons s ss) env = evalSs cl L ss e := by
  rw [r_scons, h]; rfl
theorem hits_sym {p q c p' q' c' y : Int} : hits p q c p' q' c' y = hits p' q' c' p q c y := Bool.and_comm _ _
theorem next_uniq {p q c p' q' c' a : Int} {r r' : D} (h : NextIs p q c p' q' c' a r) (h' : NextIs p' q' c' p q c a r') : r = r' := by
  cases h with
  | none h =>
    cases h' with
    | none _ => rfl
    | some T _ _ t3 _ => rw [hits_sym, h] at t3; cases t3
  | some T t1 t2 t3 t4 =>
    cases h' with
    | none h' => rw [hits_sym, h'] at t3; cases t3
    | some T' u1 u2 u3 u4 =>
      rcases Int.lt_trichotomy T T' with z | z | z
      · have := u4 T t1 z
        rw [hits_sym, t3] at this; cases this
      · rw [z]
      · have := t4 T' u1 z
        rw [hits_sym, u3] at this; cases this
theorem sm_pos {f : Nat → Nat} : ∀ {n k : Nat}, k < n → 0 < f k → 0 < sm n f
  | n + 1, k, h, h0 => by
    show 0 < sm n f + f n
    by_cases e : k = n
    · subst e; omega
    · have := sm_pos (f := f) (show k < n by omega) h0
      omega
theorem next_M {p q c p' q' c' a P M : Int} {r : D} (R : Pr p q c p' q' c' P M) (h : NextIs p q c p' q' c' a r) : (M == 0) = r.isNon := by
  have P0 := R.pos
  cases h with
  | none h =>
    have : M = 0 := by
      rw [R.cnt, sm_congr (g := fun _ => 0) fun k _ => by rw [h]; rfl, sm_zero]
      rfl
    rw [this]; rfl
  | some T t1 t2 t3 t4 =>
    have z0 := Int.emod_nonneg T (show P ≠ 0 by omega)
    have z1 := Int.emod_lt_of_pos T P0
    have ht : ind (hits p q c p' q' c' (T % P)) = 1 := by
      rw [hits_per (P := P) R.d1 R.d2 (T % P) T, t3]
      · rfl
      · have := Int.dvd_self_sub_emod (x := T) (m := P)
        have e : T % P - T = -(T - T % P) := by omega
        rw [e]; exact Int.dvd_neg.mpr this
    have := sm_pos (f := fun k => ind (hits p q c p' q' c' (k : Int))) (n := P.toNat) (k := (T % P).toNat) (by omega) (by
      have e : (((T % P).toNat : Nat) : Int) = T % P := by omega
      rw [e, ht]; omega)
    have hM := R.cnt
    have : M ≠ 0 := by omega
    simpa [D.isNon] using this
theorem cdays_none {p q c p' q' c' a T : Int} (h : ∀ y, a ≤ y → y < T → hits p q c p' q' c' y = false) : (cdays p q c p' q' c' a (T - 1 + 1 - a).toNat).length = 0 := by
  rw [List.length_eq_zero_iff]
  unfold cdays
  rw [List.filter_eq_nil_iff]
  intro y hy
  have := mem_up.mp hy
  rw [h y this.1 (by omega)]
  simp
theorem cdays_app {p q c p' q' c' a b d : Int} (h1 : a ≤ b + 1) (h2 : b ≤ d) : (cdays p q c p' q' c' a (b + 1 - a).toNat).length + (cdays p q c p' q' c' (b + 1) (d + 1 - (b + 1)).toNat).length = (cdays p q c p' q' c' a (d + 1 - a).toNat).length := by
  rw [cdays_len, cdays_len, cdays_len]
  have e : (d + 1 - a).toNat = (b + 1 - a).toNat + (d + 1 - (b + 1)).toNat := by omega
  rw [e, sm_split]
  congr 1
  apply sm_congr
  intro k _
  congr 2
  omega
theorem moved_H {p q c d : Int} : H p q (c + 7 * q) d = H p q c (d - 7) := by
  unfold H
  have e : q * d + q - 1 - (c + 7 * q) = q * (d - 7) + q - 1 - c := by grind
  rw [e]
theorem moved_len {p q c p' q' c' a b : Int} : (cdays p q (c + 7 * q) p' q' (c' + 7 * q') a (b - 7 + 1 - a).toNat).length = (cdays p q c p' q' c' (a - 7) (b - 13 - (a - 7)).toNat).length := by
  rw [cdays_len, cdays_len]
  have e : (b - 7 + 1 - a).toNat = (b - 13 - (a - 7)).toNat := by congr 1; omega
  rw [e]
  apply sm_congr
  intro k _
  unfold hits
  rw [moved_H, moved_H, show a + (k : Int) - 7 = a - 7 + (k : Int) by omega]
theorem cd_le {p q c p' q' c' a : Int} {n : Nat} : (cdays p q c p' q' c' a n).length ≤ n := by
  have := List.length_filter_le (hits p q c p' q' c') (upI a n)
  rw [up_length] at this
  exact this
section
variable {L n : Nat} {p q c p' q' c' : Int} {a0 a1 a2 a3 a4 a5 a6 a7 a8 a9 a10 a11 a12 a13 a14 a15 a16 a17 a18 : Slot} {r : List Slot}
structure Tw (p q c p' q' c' : Int) : Prop where
  g : GW 300 p q c
  g' : GW 300 p' q' c'
  c1 : c ≤ 5000000
  c2 : c' ≤ 5000000
theorem b1 {S : List D} (hS : Strm S) (h2 : nio a2 = true) (h3 : nio a3 = true) : ∃ (p q c p' q' c' : Int) (S' : List D), Tw p q c p' q' c' ∧ Strm S' ∧
    evalS (C L (n+9)) L lB1 (a0 :: .own S :: a2 :: a3 :: r) = some (.nx (a0 :: .own S' :: .val (W p q c) :: .val (W p' q' c') :: r)) := by
  obtain ⟨x, S1, x1, x2, x3, x4⟩ := s_nextN (L := L) (n := n + 8) S 3 hS (by omega) (by omega)
  by_cases hx : 0 < x
  · obtain ⟨y, S2, y1, y2, y3⟩ := s_pick (L := L) (n := n + 7) (S := S1) (ds := [.int 40, .int 300]) x2 (by simp) (by simp)
    have hy : ∃ m : Int, y = .int m ∧ 1 ≤ m ∧ m ≤ 300 := by
      simp only [List.mem_cons, List.not_mem_nil, or_false] at y3
      rcases y3 with rfl | rfl <;> exact ⟨_, rfl, by omega, by omega⟩
    obtain ⟨m, rfl, m1, m2⟩ := hy
    obtain ⟨p, q, c, p', q', c', S3, G, G', cc, s3, e3⟩ := s_pair (L := L) (n := n + 5) (most := m) m1 (by omega) y2
    refine ⟨p, q, c, p', q', c', S3, ⟨G.mono m2 (by omega), G'.mono m2 (by omega), cc.1, cc.2⟩, s3, ?_⟩
    unfold lB1
    simp_arith [x1, decide_eq_true hx, y1, e3, h2, h3]
  · obtain ⟨p, q, c, p', q', c', S3, G, G', cc, s3, e3⟩ := s_apart (L := L) (n := n + 7) (most := 300) (by omega) (by omega) x2
    refine ⟨p, q, c, p', q', c', S3, ⟨G, G', cc.1, cc.2⟩, s3, ?_⟩
    unfold lB1
    simp_arith [x1, decide_eq_false hx, e3, h2, h3]
theorem b2 {S : List D} (hS : Strm S) (T : Tw p q c p' q' c') (hL : 200000 < L) : ∃ (S' : List D), Strm S' ∧
    evalS (C L (n+9)) L lB2 (a0 :: .own S :: .val (W p q c) :: .val (W p' q' c') :: r) = some (.nx (a0 :: .own S' :: .val (W p q c) :: .val (W p' q' c') :: r)) := by
  have G := T.g.mono (m' := 100000) (by omega) (by omega)
  have G' := T.g'.mono (m' := 100000) (by omega) (by omega)
  obtain ⟨p2, q2, c2, p3, q3, c3, S3, G2, G3, cc, s3, e3⟩ := s_pair (L := L) (n := n + 5) (most := 300) (by omega) (by omega) hS
  obtain ⟨S4, s4, e4⟩ := s_paperHolds (L := L) (n := n + 1) s3 G G' (G2.mono (m' := 100000) (by omega) (by omega)) hL
  have e1 := s_periodHolds (L := L) (n := n + 1) G G' hL
  refine ⟨S4, s4, ?_⟩
  unfold lB2
  simp_arith [e1, e3, e4]
theorem b3 (T : Tw p q c p' q' c') (hL : 200000 < L) (h5 : nio a5 = true) : ∃ P M : Int, Pr p q c p' q' c' P M ∧ P ≤ 90000 ∧
    evalS (C L (n+9)) L lB3 (a0 :: a1 :: .val (W p q c) :: .val (W p' q' c') :: a4 :: a5 :: r) = some (.nx (a0 :: a1 :: .val (W p q c) :: .val (W p' q' c') :: a4 :: .val (.tup [.int P, .int M]) :: r)) := by
  have G := T.g.mono (m' := 100000) (by omega) (by omega)
  have G' := T.g'.mono (m' := 100000) (by omega) (by omega)
  have g1 := T.g.p1; have g2 := T.g.p2; have k1 := T.g'.p1; have k2 := T.g'.p2; have g3 := T.g.q1; have k3 := T.g'.q1
  have R := pr_of (p := p) (q := q) (c := c) (p' := p') (q' := q') (c' := c') (by omega) (by omega) (by omega) (by omega) G.g G'.g
  have hm := mul300 (p := p) (p' := p') (by omega) (by omega)
  have e := s_run2 (s_together (L := L) (n := n + 2) G G' hL)
  refine ⟨_, _, R, by have := R.le; omega, ?_⟩
  unfold lB3
  simp_arith [e, h5]
theorem b4 {S : List D} (hS : Strm S) (h6 : nio a6 = true) : ∃ (a : Int) (S' : List D), -(10 ^ 15) < a ∧ a ≤ 10 ^ 15 - 1000000 ∧ Strm S' ∧
    evalS (C L (n+9)) L lB4 (a0 :: .own S :: a2 :: a3 :: a4 :: a5 :: a6 :: r) = some (.nx (a0 :: .own S' :: a2 :: a3 :: a4 :: a5 :: .val (.int a) :: r)) := by
  have pow6 : evalBin .pow (.int 10) (.int 6) = some (.val (.int 1000000)) := by rfl
  have pow15 : evalBin .pow (.int 10) (.int 15) = some (.val (.int 1000000000000000)) := by rfl
  obtain ⟨x, S1, x1, x2, x3, x4⟩ := s_nextN (L := L) (n := n + 8) S 1000000 hS (by omega) (by omega)
  obtain ⟨y, S2, y1, y2, y3⟩ := s_pick (L := L) (n := n + 7) (S := S1) (ds := [.int 0, .int x, .int (1 - 1000000000000000), .int (1000000000000000 - 1000000)]) x2 (by simp) (by simp)
  have hy : ∃ a : Int, y = .int a ∧ -(10 ^ 15) < a ∧ a ≤ 10 ^ 15 - 1000000 := by
    simp only [List.mem_cons, List.not_mem_nil, or_false] at y3
    rcases y3 with rfl | rfl | rfl | rfl <;> exact ⟨_, rfl, by omega, by omega⟩
  obtain ⟨a, rfl, m1, m2⟩ := hy
  refine ⟨a, S2, m1, m2, y2, ?_⟩
  unfold lB4
  simp_arith [pow6, pow15, x1, y1, h6]
theorem b5 {a : Int} (T : Tw p q c p' q' c') (hL : 200000 < L) (h1 : -(10 ^ 15) < a) (h2 : a ≤ 10 ^ 15 - 1000000) (h7 : nio a7 = true) : ∃ r7 : D, NextIs p q c p' q' c' a r7 ∧
    evalS (C L (n+9)) L lB5 (a0 :: a1 :: .val (W p q c) :: .val (W p' q' c') :: a4 :: a5 :: .val (.int a) :: a7 :: r) = some (.nx (a0 :: a1 :: .val (W p q c) :: .val (W p' q' c') :: a4 :: a5 :: .val (.int a) :: .val r7 :: r)) := by
  obtain ⟨r7, e, hr⟩ := s_nextBoth (L := L) (n := n + 2) (a := a) T.g T.g' hL (by omega) (by omega)
  have e' := s_run3 e
  refine ⟨r7, hr, ?_⟩
  unfold lB5
  simp_arith [e', h7]
theorem b6 {a P M : Int} {r7 : D} (T : Tw p q c p' q' c') (hL : 200000 < L) (h1 : -(10 ^ 15) < a) (h2 : a ≤ 10 ^ 15 - 1000000) (R : Pr p q c p' q' c' P M) (N : NextIs p q c p' q' c' a r7) :
    evalS (C L (n+9)) L lB6 (a0 :: a1 :: .val (W p q c) :: .val (W p' q' c') :: a4 :: .val (.tup [.int P, .int M]) :: .val (.int a) :: .val r7 :: r) = some (.nx (a0 :: a1 :: .val (W p q c) :: .val (W p' q' c') :: a4 :: .val (.tup [.int P, .int M]) :: .val (.int a) :: .val r7 :: r)) := by
  obtain ⟨r', e, hr⟩ := s_nextBoth (L := L) (n := n + 2) (a := a) T.g' T.g hL (by omega) (by omega)
  have hu := next_uniq N hr
  subst hu
  have e' := s_run3 e
  have hM := next_M R N
  have heq : C L (n+9) 31 [.val r7, .val r7] = some (.val (.bl true), []) := by
    cases N with
    | none _ => exact s_equalNon (n := n + 7)
    | some T _ _ _ _ => exact s_equalInt (n := n + 7) (by omega)
  unfold lB6
  simp_arith [e', hM, heq]
theorem b7 {a : Int} {r7 : D} (T : Tw p q c p' q' c') (hL : 200000 < L) (h1 : -(10 ^ 15) < a) (h2 : a ≤ 10 ^ 15 - 1000000) (N : NextIs p q c p' q' c' a r7) :
    evalS (C L (n+9)) L lB7 (a0 :: a1 :: .val (W p q c) :: .val (W p' q' c') :: a4 :: a5 :: .val (.int a) :: .val r7 :: r) = some (.nx (a0 :: a1 :: .val (W p q c) :: .val (W p' q' c') :: a4 :: a5 :: .val (.int a) :: .val r7 :: r)) := by
  have g1 := T.g.p1; have g2 := T.g.p2; have k1 := T.g'.p1; have k2 := T.g'.p2; have g3 := T.g.q1; have g4 := T.g.q2; have k3 := T.g'.q1; have k4 := T.g'.q2
  cases N with
  | none _ =>
    unfold lB7
    simp_arith []
  | some t t1 t2 t3 t4 =>
    have hh := t3
    unfold hits at hh
    rw [Bool.and_eq_true] at hh
    have e1 := s_has (L := L) (n := n + 8) (p := p) (q := q) (c := c) (d := t) (by omega) (by omega)
    have e2 := s_has (L := L) (n := n + 8) (p := p') (q := q') (c := c') (d := t) (by omega) (by omega)
    rw [hh.1] at e1
    rw [hh.2] at e2
    have e3 := s_whole (L := L) (n := n + 8) (d := .int t) rfl
    simp only [isInt] at e3
    by_cases hlt : a < t
    · have e4 := s_run4 (s_countBoth (L := L) (n := n + 2) (a := a) (b := t - 1) T.g T.g' hL (by omega) (by omega) (by omega) (by omega))
      rw [cdays_none t4] at e4
      unfold lB7
      simp_arith [e3, decide_eq_false (show ¬ t < a by omega), e1, e2, decide_eq_true hlt, e4]
    · unfold lB7
      simp_arith [e3, decide_eq_false (show ¬ t < a by omega), e1, e2, decide_eq_false hlt]
theorem b8 {S : List D} (hS : Strm S) (h8 : nio a8 = true) : ∃ (t : Int) (S' : List D), 0 ≤ t ∧ t < 5 ∧ Strm S' ∧
    evalS (C L (n+9)) L lB8 (a0 :: .own S :: a2 :: a3 :: a4 :: a5 :: a6 :: a7 :: a8 :: r) = some (.nx (a0 :: .own S' :: a2 :: a3 :: a4 :: a5 :: a6 :: a7 :: .val (.int t) :: r)) := by
  obtain ⟨x, S1, x1, x2, x3, x4⟩ := s_nextN (L := L) (n := n + 8) S 5 hS (by omega) (by omega)
  refine ⟨x, S1, x3, x4, x2, ?_⟩
  unfold lB8
  simp_arith [x1, h8]
theorem b9 {a t P M : Int} (T : Tw p q c p' q' c') (hL : 200000 < L) (h1 : -(10 ^ 15) < a) (h2 : a ≤ 10 ^ 15 - 1000000) (R : Pr p q c p' q' c' P M) (hP : P ≤ 90000) (t0 : 0 ≤ t) (t1 : t < 5) :
    evalS (C L (n+9)) L lB9 (a0 :: a1 :: .val (W p q c) :: .val (W p' q' c') :: a4 :: .val (.tup [.int P, .int M]) :: .val (.int a) :: a7 :: .val (.int t) :: r) = some (.nx (a0 :: a1 :: .val (W p q c) :: .val (W p' q' c') :: a4 :: .val (.tup [.int P, .int M]) :: .val (.int a) :: a7 :: .val (.int t) :: r)) := by
  have P0 := R.pos
  have M0 := R.M_le
  have tp : t * P ≤ 4 * 90000 := Int.mul_le_mul (by omega) hP (by omega) (by omega)
  have tp0 : 0 ≤ t * P := Int.mul_nonneg t0 (by omega)
  have tm : t * M ≤ 4 * 90000 := Int.mul_le_mul (by omega) (by omega) (by omega) (by omega)
  have tm0 : 0 ≤ t * M := Int.mul_nonneg t0 (by omega)
  have e := s_run4 (s_countBoth (L := L) (n := n + 2) (a := a) (b := a + t * P - 1) T.g T.g' hL (by omega) (by omega) (by omega) (by omega))
  have hc : ((cdays p q c p' q' c' a (a + t * P - 1 + 1 - a).toNat).length : Int) = t * M := by
    rw [cdays_len, R.wins]
    have e1 : (((a + t * P - 1 + 1 - a).toNat : Nat) : Int) = t * P := by omega
    rw [e1, Int.mul_emod_left, Int.mul_ediv_cancel _ (show P ≠ 0 by omega)]
    show t * M + ((sm 0 _ : Nat) : Int) = t * M
    show t * M + 0 = t * M
    omega
  rw [hc] at e
  have heq := s_equalInt (L := L) (n := n + 7) (i := t * M) (by omega)
  have m1 : Pi.MulOk t P := mulS (by omega)
  have m2 : Pi.MulOk t M := mulS (by omega)
  unfold lB9
  simp_arith [decide_eq_true m1, decide_eq_true m2, e, heq]
theorem b10 {a : Int} {S : List D} (hS : Strm S) (h9 : nio a9 = true) (h10 : nio a10 = true) : ∃ (m z : Int) (S' : List D), a ≤ m ∧ m < a + 2000 ∧ a + 2000 ≤ z ∧ z < a + 2500 ∧ Strm S' ∧
    evalS (C L (n+9)) L lB10 (a0 :: .own S :: a2 :: a3 :: a4 :: a5 :: .val (.int a) :: a7 :: a8 :: a9 :: a10 :: r) = some (.nx (a0 :: .own S' :: a2 :: a3 :: a4 :: a5 :: .val (.int a) :: a7 :: a8 :: .val (.int m) :: .val (.int z) :: r)) := by
  obtain ⟨x, S1, x1, x2, x3, x4⟩ := s_nextN (L := L) (n := n + 8) S 2000 hS (by omega) (by omega)
  obtain ⟨y, S2, y1, y2, y3, y4⟩ := s_nextN (L := L) (n := n + 8) S1 500 x2 (by omega) (by omega)
  refine ⟨a + x, a + 2000 + y, S2, by omega, by omega, by omega, by omega, y2, ?_⟩
  unfold lB10
  simp_arith [x1, y1, h9, h10]
theorem has_lc (T : Tw p q c p' q' c') {b0 b1 b4 b5 b6 b7 b8 b9 b10 b11 b12 b13 b14 b16 b17 b18 : Slot} (xs : List Int) : doC (C L (n+9)) (.var 15) (.nm 15) (.and (.call 37 (.cons (.var 2) (.cons (.var 15) .nil)) []) (.call 37 (.cons (.var 3) (.cons (.var 15) .nil)) [])) [15] (xs.map D.int) [b0, b1, .val (W p q c), .val (W p' q' c'), b4, b5, b6, b7, b8, b9, b10, b11, b12, b13, b14, .nil, b16, b17, b18] [] = some ((xs.filter (hits p q c p' q' c')).map D.int, [b0, b1, .val (W p q c), .val (W p' q' c'), b4, b5, b6, b7, b8, b9, b10, b11, b12, b13, b14, .nil, b16, b17, b18]) :=
  doC_ints _ _ xs fun x hx => by
    have g1 := T.g.p1; have g2 := T.g.p2; have k1 := T.g'.p1; have k2 := T.g'.p2; have g3 := T.g.q1; have g4 := T.g.q2; have k3 := T.g'.q1; have k4 := T.g'.q2
    have e1 := s_has (L := L) (n := n + 8) (p := p) (q := q) (c := c) (d := x) (by omega) (by omega)
    have e2 := s_has (L := L) (n := n + 8) (p := p') (q := q') (c := c') (d := x) (by omega) (by omega)
    unfold hits
    cases k1 : H p q c x <;> cases k2 : H p' q' c' x <;> (unfold stepC; simp_arith [e1, e2, k1, k2])
theorem b11 {a z : Int} (T : Tw p q c p' q' c') (h1 : -(10 ^ 15) < a) (h2 : a ≤ 10 ^ 15 - 1000000) (z1 : a + 2000 ≤ z) (z2 : z < a + 2500) (h11 : nio a11 = true) (h15 : nio a15 = true) :
    evalS (C L (n+9)) L lB11 [a0, a1, .val (W p q c), .val (W p' q' c'), a4, a5, .val (.int a), a7, a8, a9, .val (.int z), a11, a12, a13, a14, a15, a16, a17, a18] = some (.nx [a0, a1, .val (W p q c), .val (W p' q' c'), a4, a5, .val (.int a), a7, a8, a9, .val (.int z), .val (.int ((cdays p q c p' q' c' a (z + 1 - a).toNat).length)), a12, a13, a14, a15, a16, a17, a18]) := by
  have hs := smallR (a := a) (b := z + 1) (by omega) (by omega) (by omega) (by omega) (by omega)
  have hl := has_lc (L := L) (n := n) T (b0 := a0) (b1 := a1) (b4 := a4) (b5 := a5) (b6 := .val (.int a)) (b7 := a7) (b8 := a8) (b9 := a9) (b10 := .val (.int z)) (b11 := a11) (b12 := a12) (b13 := a13) (b14 := a14) (b16 := a16) (b17 := a17) (b18 := a18) (upI a (z + 1 - a).toNat)
  rw [← rangeD_up] at hl
  unfold lB11
  simp_arith [hs, hl, h11, h15, List.length_map]
theorem b12 {a m z : Int} (T : Tw p q c p' q' c') (hL : 200000 < L) (h1 : -(10 ^ 15) < a) (h2 : a ≤ 10 ^ 15 - 1000000) (m1 : a ≤ m) (m2 : m < a + 2000) (z1 : a + 2000 ≤ z) (z2 : z < a + 2500) (h12 : nio a12 = true) :
    evalS (C L (n+9)) L lB12 (a0 :: a1 :: .val (W p q c) :: .val (W p' q' c') :: a4 :: a5 :: .val (.int a) :: a7 :: a8 :: .val (.int m) :: .val (.int z) :: a11 :: a12 :: r) =
      some (.nx (a0 :: a1 :: .val (W p q c) :: .val (W p' q' c') :: a4 :: a5 :: .val (.int a) :: a7 :: a8 :: .val (.int m) :: .val (.int z) :: a11 :: .val (.tup [.int ((cdays p q c p' q' c' a (m + 1 - a).toNat).length), .int ((cdays p q c p' q' c' (m + 1) (z + 1 - (m + 1)).toNat).length)]) :: r)) := by
  have e1 := s_run4 (s_countBoth (L := L) (n := n + 2) (a := a) (b := m) T.g T.g' hL (by omega) (by omega) (by omega) (by omega))
  have e2 := s_run4 (s_countBoth (L := L) (n := n + 2) (a := m + 1) (b := z) T.g T.g' hL (by omega) (by omega) (by omega) (by omega))
  unfold lB12
  simp_arith [e1, e2, h12]
theorem b13 {a m z : Int} (T : Tw p q c p' q' c') (hL : 200000 < L) (h1 : -(10 ^ 15) < a) (h2 : a ≤ 10 ^ 15 - 1000000) (m1 : a ≤ m) (m2 : m < a + 2000) (z1 : a + 2000 ≤ z) (z2 : z < a + 2500) :
    evalS (C L (n+9)) L lB13 (a0 :: a1 :: .val (W p q c) :: .val (W p' q' c') :: a4 :: a5 :: .val (.int a) :: a7 :: a8 :: a9 :: .val (.int z) :: .val (.int ((cdays p q c p' q' c' a (z + 1 - a).toNat).length)) :: .val (.tup [.int ((cdays p q c p' q' c' a (m + 1 - a).toNat).length), .int ((cdays p q c p' q' c' (m + 1) (z + 1 - (m + 1)).toNat).length)]) :: r) =
      some (.nx (a0 :: a1 :: .val (W p q c) :: .val (W p' q' c') :: a4 :: a5 :: .val (.int a) :: a7 :: a8 :: a9 :: .val (.int z) :: .val (.int ((cdays p q c p' q' c' a (z + 1 - a).toNat).length)) :: .val (.tup [.int ((cdays p q c p' q' c' a (m + 1 - a).toNat).length), .int ((cdays p q c p' q' c' (m + 1) (z + 1 - (m + 1)).toNat).length)]) :: r)) := by
  have e := s_run4 (s_countBoth (L := L) (n := n + 2) (a := a) (b := z) T.g T.g' hL (by omega) (by omega) (by omega) (by omega))
  have l := cd_le (p := p) (q := q) (c := c) (p' := p') (q' := q') (c' := c') (a := a) (n := (z + 1 - a).toNat)
  have heq := s_equalInt (L := L) (n := n + 7) (i := ((cdays p q c p' q' c' a (z + 1 - a).toNat).length : Int)) (by omega)
  have hsum := cdays_app (p := p) (q := q) (c := c) (p' := p') (q' := q') (c' := c') (a := a) (b := m) (d := z) (by omega) (by omega)
  generalize (cdays p q c p' q' c' a (z + 1 - a).toNat).length = w at *
  generalize (cdays p q c p' q' c' a (m + 1 - a).toNat).length = x at *
  generalize (cdays p q c p' q' c' (m + 1) (z + 1 - (m + 1)).toNat).length = y at *
  have hb : ((x : Int) + (y : Int) == (w : Int)) = true := by
    have : (x : Int) + (y : Int) = (w : Int) := by omega
    simpa using this
  unfold lB13
  simp_arith [e, heq, hb]
theorem b14 (T : Tw p q c p' q' c') (h13 : nio a13 = true) (h16 : nio a16 = true) (h17 : nio a17 = true) (h18 : nio a18 = true) :
    evalS (C L (n+9)) L lB14 [a0, a1, .val (W p q c), .val (W p' q' c'), a4, a5, a6, a7, a8, a9, a10, a11, a12, a13, a14, a15, a16, a17, a18] = some (.nx [a0, a1, .val (W p q c), .val (W p' q' c'), a4, a5, a6, a7, a8, a9, a10, a11, a12, .own [W p q (c + 7 * q), W p' q' (c' + 7 * q')], a14, a15, a16, a17, a18]) := by
  have m1 : Pi.MulOk 7 q := mulS (by omega)
  have m2 : Pi.MulOk 7 q' := mulS (by omega)
  unfold lB14
  simp_arith [d_cons, stepC, decide_eq_true m1, decide_eq_true m2, h13, h16, h17, h18]
theorem b15 {a z : Int} (T : Tw p q c p' q' c') (h1 : -(10 ^ 15) < a) (h2 : a ≤ 10 ^ 15 - 1000000) (z1 : a + 2000 ≤ z) (z2 : z < a + 2500) (h14 : nio a14 = true) (h15 : nio a15 = true) :
    evalS (C L (n+9)) L lB15 [a0, a1, .val (W p q c), .val (W p' q' c'), a4, a5, .val (.int a), a7, a8, a9, .val (.int z), a11, a12, a13, a14, a15, a16, a17, a18] = some (.nx [a0, a1, .val (W p q c), .val (W p' q' c'), a4, a5, .val (.int a), a7, a8, a9, .val (.int z), a11, a12, a13, .val (.int ((cdays p q c p' q' c' (a - 7) (z - 13 - (a - 7)).toNat).length)), a15, a16, a17, a18]) := by
  have hs := smallR (a := a - 7) (b := z - 13) (by omega) (by omega) (by omega) (by omega) (by omega)
  have hl := has_lc (L := L) (n := n) T (b0 := a0) (b1 := a1) (b4 := a4) (b5 := a5) (b6 := .val (.int a)) (b7 := a7) (b8 := a8) (b9 := a9) (b10 := .val (.int z)) (b11 := a11) (b12 := a12) (b13 := a13) (b14 := a14) (b16 := a16) (b17 := a17) (b18 := a18) (upI (a - 7) (z - 13 - (a - 7)).toNat)
  rw [← rangeD_up] at hl
  unfold lB15
  simp_arith [hs, hl, h14, h15, List.length_map]
theorem moved_GW {m : Int} (G : GW m p q c) (hm : m ≤ 300) (h : c ≤ 5000000) : GW m p q (c + 7 * q) := ⟨G.p1, G.p2, G.q1, G.q2, G.g, by have := G.c1; have := G.q1; omega, by have := G.q2; omega, by omega⟩
theorem add4 {a b c d : D} : evalBin .add (.ls [a, b]) (.ls [c, d]) = some (.own [a, b, c, d]) := by rfl
theorem b16 {a z : Int} (T : Tw p q c p' q' c') (hL : 200000 < L) (h1 : -(10 ^ 15) < a) (h2 : a ≤ 10 ^ 15 - 1000000) (z1 : a + 2000 ≤ z) (z2 : z < a + 2500) :
    evalS (C L (n+9)) L lB16 (a0 :: a1 :: .val (W p q c) :: .val (W p' q' c') :: a4 :: a5 :: .val (.int a) :: a7 :: a8 :: a9 :: .val (.int z) :: a11 :: a12 :: .own [W p q (c + 7 * q), W p' q' (c' + 7 * q')] :: .val (.int ((cdays p q c p' q' c' (a - 7) (z - 13 - (a - 7)).toNat).length)) :: r) =
      some (.nx (a0 :: a1 :: .val (W p q c) :: .val (W p' q' c') :: a4 :: a5 :: .val (.int a) :: a7 :: a8 :: a9 :: .val (.int z) :: a11 :: a12 :: .val (.ls [W p q (c + 7 * q), W p' q' (c' + 7 * q')]) :: .val (.int ((cdays p q c p' q' c' (a - 7) (z - 13 - (a - 7)).toNat).length)) :: r)) := by
  have e1 := s_run4 (s_countBoth (L := L) (n := n + 2) (a := a) (b := z - 7) (moved_GW T.g (by omega) T.c1) (moved_GW T.g' (by omega) T.c2) hL (by omega) (by omega) (by omega) (by omega))
  have e2 := s_run4 (s_countBoth (L := L) (n := n + 2) (a := z) (b := a - 1) T.g T.g' hL (by omega) (by omega) (by omega) (by omega))
  rw [show (a - 1 + 1 - z).toNat = 0 by omega] at e2
  rw [moved_len] at e1
  have l := cd_le (p := p) (q := q) (c := c) (p' := p') (q' := q') (c' := c') (a := a - 7) (n := (z - 13 - (a - 7)).toNat)
  have heq := s_equalInt (L := L) (n := n + 7) (i := ((cdays p q c p' q' c' (a - 7) (z - 13 - (a - 7)).toNat).length : Int)) (by omega)
  have heq0 := s_equalInt (L := L) (n := n + 7) (i := 0) (by omega)
  have e2' : C L (n+9) 36 [.val (.fn 26), .val (.ls [W p q c, W p' q' c', .int z, .int (a - 1)])] = some (.val (.int 0), []) := e2
  generalize (cdays p q c p' q' c' (a - 7) (z - 13 - (a - 7)).toNat).length = w at *
  unfold lB16
  simp_arith [add4, e1, heq, e2', heq0]
theorem b17 {a t : Int} {S : List D} (hS : Strm S) (T : Tw p q c p' q' c') (hL : 200000 < L) (h1 : -(10 ^ 15) < a) (h2 : a ≤ 10 ^ 15 - 1000000) : ∃ S' : List D, Strm S' ∧
    evalS (C L (n+9)) L lB17 (a0 :: .own S :: .val (W p q c) :: .val (W p' q' c') :: .val (.int t) :: a5 :: .val (.int a) :: r) = some (.nx (a0 :: .own S' :: .val (W p q c) :: .val (W p' q' c') :: .val (.int t) :: a5 :: .val (.int a) :: r)) := by
  by_cases h : t = 0
  · obtain ⟨S', s1, e⟩ := s_farDays (L := L) (n := n + 1) (a := a) hS T.g T.g' hL h1 h2
    refine ⟨S', s1, ?_⟩
    subst h
    unfold lB17
    simp_arith [e]
  · have hb : (t == 0) = false := by simpa using h
    refine ⟨S, hS, ?_⟩
    unfold lB17
    simp_arith [hb]
end
end K83

-- K83P11
set_option maxHeartbeats 8000000
namespace K83
open PySem Pi
section
variable {L n : Nat} {scr : D}
def nios : List Slot → Bool
  | [] => true
  | s :: ss => nio s && nios ss
theorem turn_ok {S : List D} {t : Int} {a2 a3 a5 a6 a7 a8 a9 a10 a11 a12 a13 a14 a15 a16 a17 a18 : Slot} (hS : Strm S) (hL : 200000 < L) (h : nios [a2, a3, a5, a6, a7, a8, a9, a10, a11, a12, a13, a14, a15, a16, a17, a18] = true) :
    ∃ (S' : List D) (b2 b3 b5 b6 b7 b8 b9 b10 b11 b12 b13 b14 b15 b16 b17 b18 : Slot), Strm S' ∧ nios [b2, b3, b5, b6, b7, b8, b9, b10, b11, b12, b13, b14, b15, b16, b17, b18] = true ∧
    evalSs (C L (n+9)) L lawBody [.val scr, .own S, a2, a3, .val (.int t), a5, a6, a7, a8, a9, a10, a11, a12, a13, a14, a15, a16, a17, a18] =
      some (.nx [.val scr, .own S', b2, b3, .val (.int t), b5, b6, b7, b8, b9, b10, b11, b12, b13, b14, b15, b16, b17, b18]) := by
  simp only [nios, Bool.and_eq_true, Bool.and_true] at h
  obtain ⟨h2, h3, h5, h6, h7, h8, h9, h10, h11, h12, h13, h14, h15, h16, h17, h18⟩ := h
  obtain ⟨p, q, c, p', q', c', S1, T, s1, e1⟩ := b1 (L := L) (n := n) (a0 := .val scr) (r := [.val (.int t), a5, a6, a7, a8, a9, a10, a11, a12, a13, a14, a15, a16, a17, a18]) hS h2 h3
  obtain ⟨S2, s2, e2⟩ := b2 (L := L) (n := n) (a0 := .val scr) (r := [.val (.int t), a5, a6, a7, a8, a9, a10, a11, a12, a13, a14, a15, a16, a17, a18]) s1 T hL
  obtain ⟨P, M, R, hP, e3⟩ := b3 (L := L) (n := n) (a0 := .val scr) (a1 := .own S2) (a4 := .val (.int t)) (r := [a6, a7, a8, a9, a10, a11, a12, a13, a14, a15, a16, a17, a18]) T hL h5
  obtain ⟨a, S4, q1, q2, s4, e4⟩ := b4 (L := L) (n := n) (a0 := .val scr) (a2 := .val (W p q c)) (a3 := .val (W p' q' c')) (a4 := .val (.int t)) (a5 := .val (.tup [.int P, .int M])) (r := [a7, a8, a9, a10, a11, a12, a13, a14, a15, a16, a17, a18]) s2 h6
  obtain ⟨r7, N, e5⟩ := b5 (L := L) (n := n) (a0 := .val scr) (a1 := .own S4) (a4 := .val (.int t)) (a5 := .val (.tup [.int P, .int M])) (r := [a8, a9, a10, a11, a12, a13, a14, a15, a16, a17, a18]) T hL q1 q2 h7
  have e6 := b6 (L := L) (n := n) (a0 := .val scr) (a1 := .own S4) (a4 := .val (.int t)) (r := [a8, a9, a10, a11, a12, a13, a14, a15, a16, a17, a18]) T hL q1 q2 R N
  have e7 := b7 (L := L) (n := n) (a0 := .val scr) (a1 := .own S4) (a4 := .val (.int t)) (a5 := .val (.tup [.int P, .int M])) (r := [a8, a9, a10, a11, a12, a13, a14, a15, a16, a17, a18]) T hL q1 q2 N
  obtain ⟨u, S8, u0, u1, s8, e8⟩ := b8 (L := L) (n := n) (a0 := .val scr) (a2 := .val (W p q c)) (a3 := .val (W p' q' c')) (a4 := .val (.int t)) (a5 := .val (.tup [.int P, .int M])) (a6 := .val (.int a)) (a7 := .val r7) (r := [a9, a10, a11, a12, a13, a14, a15, a16, a17, a18]) s4 h8
  have e9 := b9 (L := L) (n := n) (a0 := .val scr) (a1 := .own S8) (a4 := .val (.int t)) (a7 := .val r7) (r := [a9, a10, a11, a12, a13, a14, a15, a16, a17, a18]) T hL q1 q2 R hP u0 u1
  obtain ⟨m, z, S10, m1, m2, z1, z2, s10, e10⟩ := b10 (L := L) (n := n) (a0 := .val scr) (a2 := .val (W p q c)) (a3 := .val (W p' q' c')) (a4 := .val (.int t)) (a5 := .val (.tup [.int P, .int M])) (a := a) (a7 := .val r7) (a8 := .val (.int u)) (r := [a11, a12, a13, a14, a15, a16, a17, a18]) s8 h9 h10
  have e11 := b11 (L := L) (n := n) (a0 := .val scr) (a1 := .own S10) (a4 := .val (.int t)) (a5 := .val (.tup [.int P, .int M])) (a7 := .val r7) (a8 := .val (.int u)) (a9 := .val (.int m)) (a12 := a12) (a13 := a13) (a14 := a14) (a16 := a16) (a17 := a17) (a18 := a18) T q1 q2 z1 z2 h11 h15
  have e12 := b12 (L := L) (n := n) (a0 := .val scr) (a1 := .own S10) (a4 := .val (.int t)) (a5 := .val (.tup [.int P, .int M])) (a7 := .val r7) (a8 := .val (.int u)) (a11 := .val (.int ((cdays p q c p' q' c' a (z + 1 - a).toNat).length))) (r := [a13, a14, a15, a16, a17, a18]) T hL q1 q2 m1 m2 z1 z2 h12
  have e13 := b13 (L := L) (n := n) (a0 := .val scr) (a1 := .own S10) (a4 := .val (.int t)) (a5 := .val (.tup [.int P, .int M])) (a7 := .val r7) (a8 := .val (.int u)) (a9 := .val (.int m)) (r := [a13, a14, a15, a16, a17, a18]) T hL q1 q2 m1 m2 z1 z2
  have e14 := b14 (L := L) (n := n) (a0 := .val scr) (a1 := .own S10) (a4 := .val (.int t)) (a5 := .val (.tup [.int P, .int M])) (a6 := .val (.int a)) (a7 := .val r7) (a8 := .val (.int u)) (a9 := .val (.int m)) (a10 := .val (.int z)) (a11 := .val (.int ((cdays p q c p' q' c' a (z + 1 - a).toNat).length))) (a12 := .val (.tup [.int ((cdays p q c p' q' c' a (m + 1 - a).toNat).length), .int ((cdays p q c p' q' c' (m + 1) (z + 1 - (m + 1)).toNat).length)])) (a14 := a14) (a15 := a15) T h13 h16 h17 h18
  have e15 := b15 (L := L) (n := n) (a0 := .val scr) (a1 := .own S10) (a4 := .val (.int t)) (a5 := .val (.tup [.int P, .int M])) (a7 := .val r7) (a8 := .val (.int u)) (a9 := .val (.int m)) (a11 := .val (.int ((cdays p q c p' q' c' a (z + 1 - a).toNat).length))) (a12 := .val (.tup [.int ((cdays p q c p' q' c' a (m + 1 - a).toNat).length), .int ((cdays p q c p' q' c' (m + 1) (z + 1 - (m + 1)).toNat).length)])) (a13 := .own [W p q (c + 7 * q), W p' q' (c' + 7 * q')]) (a16 := a16) (a17 := a17) (a18 := a18) T q1 q2 z1 z2 h14 h15
  have e16 := b16 (L := L) (n := n) (a0 := .val scr) (a1 := .own S10) (a4 := .val (.int t)) (a5 := .val (.tup [.int P, .int M])) (a7 := .val r7) (a8 := .val (.int u)) (a9 := .val (.int m)) (a11 := .val (.int ((cdays p q c p' q' c' a (z + 1 - a).toNat).length))) (a12 := .val (.tup [.int ((cdays p q c p' q' c' a (m + 1 - a).toNat).length), .int ((cdays p q c p' q' c' (m + 1) (z + 1 - (m + 1)).toNat).length)])) (r := [a15, a16, a17, a18]) T hL q1 q2 z1 z2
  obtain ⟨S17, s17, e17⟩ := b17 (L := L) (n := n) (a0 := .val scr) (t := t) (a5 := .val (.tup [.int P, .int M])) (r := [.val r7, .val (.int u), .val (.int m), .val (.int z), .val (.int ((cdays p q c p' q' c' a (z + 1 - a).toNat).length)), .val (.tup [.int ((cdays p q c p' q' c' a (m + 1 - a).toNat).length), .int ((cdays p q c p' q' c' (m + 1) (z + 1 - (m + 1)).toNat).length)]), .val (.ls [W p q (c + 7 * q), W p' q' (c' + 7 * q')]), .val (.int ((cdays p q c p' q' c' (a - 7) (z - 13 - (a - 7)).toNat).length)), a15, a16, a17, a18]) s10 T hL q1 q2
  have fin := (ss_nx e1).trans <| (ss_nx e2).trans <| (ss_nx e3).trans <| (ss_nx e4).trans <| (ss_nx e5).trans <| (ss_nx e6).trans <| (ss_nx e7).trans <| (ss_nx e8).trans <| (ss_nx e9).trans <| (ss_nx e10).trans <| (ss_nx e11).trans <| (ss_nx e12).trans <| (ss_nx e13).trans <| (ss_nx e14).trans <| (ss_nx e15).trans <| (ss_nx e16).trans <| (ss_nx e17).trans r_snil
  refine ⟨S17, _, _, _, _, _, _, _, _, _, _, _, _, _, _, _, _, s17, ?_, fin⟩
  simp only [nios, nio_val, nio_own, h15, h16, h17, h18, Bool.and_self]
theorem s1_ok {S : List D} {r : List Slot} (hS : Strm S) : ∃ (p q c p' q' c' : Int) (S' : List D), GW 100000 p q c ∧ GW 100000 p' q' c' ∧ Strm S' ∧
    evalS (C L (n+9)) L lS1 (.val scr :: .own S :: .nil :: .nil :: r) = some (.nx (.val scr :: .own S' :: .val (W p q c) :: .val (W p' q' c') :: r)) := by
  have pow5 : evalBin .pow (.int 10) (.int 5) = some (.val (.int 100000)) := by rfl
  obtain ⟨x, S1, x1, x2, x3, x4⟩ := s_nextN (L := L) (n := n + 8) S 2 hS (by omega) (by omega)
  by_cases hx : x = 0
  · obtain ⟨y, S2, y1, y2, y3⟩ := s_pick (L := L) (n := n + 7) (S := S1) (ds := [.int 1000, .int 100000]) x2 (by simp) (by simp)
    have hy : ∃ m : Int, y = .int m ∧ 1 ≤ m ∧ m ≤ 100000 := by
      simp only [List.mem_cons, List.not_mem_nil, or_false] at y3
      rcases y3 with rfl | rfl <;> exact ⟨_, rfl, by omega, by omega⟩
    obtain ⟨m, rfl, m1, m2⟩ := hy
    obtain ⟨p, q, c, p', q', c', S3, G, G', cc, s3, e3⟩ := s_pair (L := L) (n := n + 5) (most := m) m1 (by omega) y2
    refine ⟨p, q, c, p', q', c', S3, G.mono m2 (by omega), G'.mono m2 (by omega), s3, ?_⟩
    subst hx
    unfold lS1
    simp_arith [x1, pow5, y1, e3]
  · obtain ⟨p, q, c, p', q', c', S3, G, G', cc, s3, e3⟩ := s_apart (L := L) (n := n + 7) (most := 100000) (by omega) (by omega) x2
    have hb : (x == 0) = false := by simpa using hx
    refine ⟨p, q, c, p', q', c', S3, G, G', s3, ?_⟩
    unfold lS1
    simp_arith [x1, hb, pow5, e3]
theorem s2_ok {p q c p' q' c' : Int} {S : List D} {r : List Slot} (hS : Strm S) (G : GW 100000 p q c) (G' : GW 100000 p' q' c') (hL : 200000 < L) : ∃ S' : List D, Strm S' ∧
    evalS (C L (n+9)) L lS2 (.val scr :: .own S :: .val (W p q c) :: .val (W p' q' c') :: r) = some (.nx (.val scr :: .own S' :: .val (W p q c) :: .val (W p' q' c') :: r)) := by
  have pow5 : evalBin .pow (.int 10) (.int 5) = some (.val (.int 100000)) := by rfl
  obtain ⟨p2, q2, c2, p3, q3, c3, S3, G2, G3, cc, s3, e3⟩ := s_pair (L := L) (n := n + 5) (most := 100000) (by omega) (by omega) hS
  obtain ⟨S4, s4, e4⟩ := s_paperHolds (L := L) (n := n + 1) s3 G G' G2 hL
  have e1 := s_periodHolds (L := L) (n := n + 1) G G' hL
  refine ⟨S4, s4, ?_⟩
  unfold lS2
  simp_arith [e1, pow5, e3, e4]
theorem plain0 (ns : List Int) (hL : 200000 < L) : C L (n+10) 45 [.val (.ls (ns.map D.int))] = some (.val (.bl true), []) := by
  have e0 := s_stream (L := L) (n := n + 8) (ns := ns)
  obtain ⟨p, q, c, p', q', c', S1, G, G', s1, e1⟩ := s1_ok (L := L) (n := n) (scr := .ls (ns.map D.int)) (r := [.nil, .nil, .nil, .nil, .nil, .nil, .nil, .nil, .nil, .nil, .nil, .nil, .nil, .nil, .nil]) (strm0 ns)
  obtain ⟨S2, s2, e2⟩ := s2_ok (L := L) (n := n) (scr := .ls (ns.map D.int)) (r := [.nil, .nil, .nil, .nil, .nil, .nil, .nil, .nil, .nil, .nil, .nil, .nil, .nil, .nil, .nil]) s1 G G' hL
  obtain ⟨S3, b2, b3, b5, b6, b7, b8, b9, b10, b11, b12, b13, b14, b15, b16, b17, b18, s3, hb, e3⟩ := turn_ok (L := L) (n := n) (scr := .ls (ns.map D.int)) (t := 0) (a2 := .val (W p q c)) (a3 := .val (W p' q' c')) (a5 := .nil) (a6 := .nil) (a7 := .nil) (a8 := .nil) (a9 := .nil) (a10 := .nil) (a11 := .nil) (a12 := .nil) (a13 := .nil) (a14 := .nil) (a15 := .nil) (a16 := .nil) (a17 := .nil) (a18 := .nil) s2 hL rfl
  obtain ⟨S4, d2, d3, d5, d6, d7, d8, d9, d10, d11, d12, d13, d14, d15, d16, d17, d18, s4, hd, e4⟩ := turn_ok (L := L) (n := n) (scr := .ls (ns.map D.int)) (t := 1) s3 hL hb
  have f3 : evalS (C L (n+9)) L lS3 [.val (.ls (ns.map D.int)), .own S2, .val (W p q c), .val (W p' q' c'), .nil, .nil, .nil, .nil, .nil, .nil, .nil, .nil, .nil, .nil, .nil, .nil, .nil, .nil, .nil] = some (.nx [.val (.ls (ns.map D.int)), .own S4, d2, d3, .val (.int 1), d5, d6, d7, d8, d9, d10, d11, d12, d13, d14, d15, d16, d17, d18]) := by
    have hr : rangeD 0 (2 : Int).toNat = [.int 0, .int 1] := rfl
    have hs : decide (Small (2 : Int)) = true := by decide
    have g1 : (bindO (bindTg (.nm 4) (.int 0) [.val (.ls (ns.map D.int)), .own S2, .val (W p q c), .val (W p' q' c'), .nil, .nil, .nil, .nil, .nil, .nil, .nil, .nil, .nil, .nil, .nil, .nil, .nil, .nil, .nil]) fun e => evalSs (C L (n+9)) L lawBody e) = some (.nx [.val (.ls (ns.map D.int)), .own S3, b2, b3, .val (.int 0), b5, b6, b7, b8, b9, b10, b11, b12, b13, b14, b15, b16, b17, b18]) := by
      rw [← e3]
      simp_arith []
    have g2 : (bindO (bindTg (.nm 4) (.int 1) [.val (.ls (ns.map D.int)), .own S3, b2, b3, .val (.int 0), b5, b6, b7, b8, b9, b10, b11, b12, b13, b14, b15, b16, b17, b18]) fun e => evalSs (C L (n+9)) L lawBody e) = some (.nx [.val (.ls (ns.map D.int)), .own S4, d2, d3, .val (.int 1), d5, d6, d7, d8, d9, d10, d11, d12, d13, d14, d15, d16, d17, d18]) := by
      rw [← e4]
      simp_arith []
    have gg := (f_step (xs := [.int 1]) g1).trans ((f_step (xs := []) g2).trans f_nil)
    unfold lS3
    simp_arith [hs, hr, gg]
  have f0 : evalS (C L (n+9)) L lS0 [.val (.ls (ns.map D.int)), .nil, .nil, .nil, .nil, .nil, .nil, .nil, .nil, .nil, .nil, .nil, .nil, .nil, .nil, .nil, .nil, .nil, .nil] = some (.nx [.val (.ls (ns.map D.int)), .own [.ls (ns.map D.int), .int 0, .int 0], .nil, .nil, .nil, .nil, .nil, .nil, .nil, .nil, .nil, .nil, .nil, .nil, .nil, .nil, .nil, .nil, .nil]) := by
    unfold lS0
    simp_arith [e0]
  rw [call_to (d := b83d45) rfl]
  simp only [b83d45, law_is]
  simp_arith [f0, e1, e2, f3, lS4]
end
end K83

-- K83Head
set_option maxHeartbeats 0
namespace K83
open PySem PySem.Spec PyProof.Rows L2 Pi
abbrev K : Nat := 20
theorem plain (ns : List Int) (h : ns.length ≤ 63) : ∃ L, call (tabOf b83defs) L K 45 [.val (.ls (ns.map D.int))] = some (.val (.bl true), []) := ⟨200001, plain0 (n := 10) ns (by omega)⟩
abbrev R : PySem.W.OpenRow := PySem.W.OpenLaw.row PySem.Challenge.rw_evensure_k83_whole_periods_and_far_commo
abbrev hk : PySem.W.Hook := He.hookD 4 (faL b83defs b83cs) (fnL b83defs)
def ob (s : PySem.W.SharedT) : He.AlD := He.obsDG 4 (faL b83defs b83cs) (fnL b83defs) (HandSHeadRun.getT s)
theorem ob_eq (s : PySem.W.SharedT) : ob s = hk.obs s.abs := He.obsDG_eq (HandSHeadRun.getT_eq s)
abbrev loose : List Str := (["EvenError", "BadValue", "is_integer", "is_from_to", "is_tuple_of", "check_from_to", "MOST_NUMBER", "common_divisor", "is_fraction", "MOST_DAY", "is_world", "check_day", "day_among", "inverse", "MOST_PART"] : List Str) ++
  (["check_pair", "first_event", "has_rest", "common_rest", "day_with", "day_among_both", "days_with", "period_among", "together_period", "both_paper", "accepts_both", "MOST_SMALL", "MOST_SPAN", "check_span", "events_on"] : List Str) ++
  (["both_in", "next_both", "merged", "count_both", "_law_stream", "_law_next", "_law_pick", "_law_plain", "_law_equal", "_law_whole", "_law_divisor", "_law_lowest", "_law_pair", "_law_run", "_law_has"] : List Str) ++
  (["_law_apart", "_law_many", "_law_rests", "_law_is_one", "_law_period_holds", "_law_paper_holds", "_law_far_days_hold"] : List Str)
theorem run (w : World) : HandSHeadRun.RunEq R (PySem.W.view R.prog [60]) hk ob 6000 loose w := by
  intro os
  kernel_rfl
end K83
open PySem PySem.W PySem.Calls PyProof.Rows
theorem PySem.Challenge.cw_evensure_k83_whole_periods_and_far_commo_holds : PySem.Challenge.rw_evensure_k83_whole_periods_and_far_commo.Holds := by
  w_on; o_law
  refine HandSHeadRun.head_any (r := OpenLaw.row PySem.Challenge.rw_evensure_k83_whole_periods_and_far_commo) (q := view (OpenLaw.row PySem.Challenge.rw_evensure_k83_whole_periods_and_far_commo).prog [60]) (H := K83.hk) (ob := K83.ob) (M := 6000) (loose := K83.loose) (d := HandSHeadRun.topDef (OpenLaw.row PySem.Challenge.rw_evensure_k83_whole_periods_and_far_commo).prog 60) (kwd := []) K83.ob_eq
    (by kernel_rfl) (fun s => by kernel_rfl) K83.run (by kernel_rfl) (by kernel_rfl) (by kernel_rfl) (by rfl) (by first | assumption | decide +kernel) (by decide +kernel) ⟨rfl, rfl, rfl, rfl, rfl, by decide +kernel⟩ ?hw ?hc
  case hw => w_witness2
  case hc =>
    refine Pi.walk_G (l := PySem.Challenge.rw_evensure_k83_whole_periods_and_far_commo) (n := 63) (k := K83.K) (x := "script") rfl (by decide) (by kernel_rfl) ⟨rfl, by decide, by decide⟩ ?F
    intro w mg fa h Y G hmg0
    obtain ⟨K, KX, c⟩ := Y
    have hmg : mg ("law" : PySem.Str) = some (.ref fa) := by
      have e : (HandSHeadRun.topDef (OpenLaw.row PySem.Challenge.rw_evensure_k83_whole_periods_and_far_commo).prog 60).name = ("law" : PySem.Str) := by kernel_rfl
      rw [← e]
      exact hmg0
    obtain ⟨M, all⟩ := Pi.mod_ok KX G c K83.b83all
    obtain ⟨fd, F, hg, hbt⟩ := all 45 K83.b83d45 rfl rfl
    have e := hmg.symm.trans hg
    cases e
    exact ⟨K, fd, Pi.spLaw (Pi.rcOf K K83.b83defs) (Pi.tabOf K83.b83defs) K83.K 45, KX, fun s v => hbt s [v] rfl, fun H a ns hl hO hS => Pi.spLaw_of hO hS (K83.plain ns hl), fun base _ _ => Pi.law_fn M K83.K 45 F⟩
