import PyProof.Rows.All
import Wide.All
import OpenK.AllK
import Wide.FinOn
import KE.SortData
import HandS.ForMost
import HandS.Flow
import HandS.Zip
import HandS.Deep
import HandS.TupAny
import HandS.TupMul
import HandS.Wide
import HandS.ForExc
import HandS.Lambda
import KE.DataMinMax
import KE.KTupSum
import PyProof.P3In
import PyProof.EnumMake
import PyProof.WalksEnum
import KE.GoesNew
import KE.GoesMore
import KE.GoesZip
import KE.GoesEnum
import HandS.Rev
import HandS.Walk
import HandS.Style
import HandS.Defaults
import HandS.TryOnly
import HandS.Dict
import HandS.Conv
import HandS.SetFor
import HandS.TupSets
import HandS.HeadWalk
import HandS.HeadHook4
import HandS.NestedK
import HandS.EndTab
import HandS.Head0
import HandS.Head1
import HandS.Head2
import PySem.Challenge.RW_heldsteady_k42_whole_lines_and_queues_be
set_option Elab.async false
set_option linter.all false
set_option maxRecDepth 100000
/-! Dv1: a small language of the forms that the programs use, and what it reckons: values without the heap. -/
namespace Dv
open PySem PySem.Spec PyProof.Rows L2

abbrev D := PyData
/-- the law's tape -/
structure Tp where
  cells : List Int
  at_ : Int
  left : Int
  seed : Int
  salt : Int
/-- a value: data, or the tape -/
inductive Va where
  | d (x : D)
  | tp
/-- a slot: a value that nobody changes, or a list of one's own -/
inductive Sl where
  | sh (v : Va)
  | own (xs : List D)
abbrev Env := List (Option Sl)
/-- what an expression gives: a value; a fresh list; what stands in a slot -/
inductive Rv where
  | sh (v : Va)
  | fr (xs : List D)
  | br (i : Nat)
inductive R (α : Type) where
  | ok (a : α) (env : Env) (τ : Tp)
  | err (c : Str) (τ : Tp)
  | stuck
def R.bind {α β : Type} : R α → (α → Env → Tp → R β) → R β
  | .ok a env τ, f => f a env τ
  | .err c τ, _ => .err c τ
  | .stuck, _ => .stuck
/-- what a def gives -/
inductive FR where
  | ok (v : Va) (τ : Tp)
  | err (c : Str) (τ : Tp)
  | stuck
abbrev Orc := Str → List Va → Tp → FR

inductive BO where | add | sub | mul | fdiv | mod
  deriving DecidableEq
inductive CO where | eq | ne | lt | le | gt | ge | in_ | notin
  deriving DecidableEq
inductive BF where | len | abs | int | max | min | sum | all | any | tuple | list | sorted | listRange
  deriving DecidableEq
inductive IK where | seq | range1 | range2 | range3 | zip | enum | rev
  deriving DecidableEq
/-- the tape's fields -/
inductive TF where | cells | at_ | left | seed | salt
  deriving DecidableEq
/-- further forms of one part, of two -/
inductive P1 where | listRange | lenSet | isB (b : Bool) | notB (b : Bool)
  deriving DecidableEq
inductive P2 where | index
  deriving DecidableEq
inductive Tg where
  | name (i : Nat)
  | tup (ts : List Tg)

mutual
inductive E where
  | var (i : Nat)
  | cI (i : Int) | cB (b : Bool) | cN | cS (s : Str)
  | glo (x : Str) (d : D)
  | neg (a : E) | not_ (a : E)
  | bin (o : BO) (a b : E)
  | cmp (o : CO) (a b : E)
  | isN (a : E) | notN (a : E)
  | chain (o o' : CO) (a b c : E)
  | and_ (a b : E) | or_ (a b : E)
  | ite (t : T) (a b : E)
  | tup (xs : Es) | lst (xs : Es)
  | idx (a i : E)
  | sli (a : E) (lo hi : O)
  | call (f : Str) (xs : Es)
  | refused (x cl : Str) (e : E)
  | blt (f : BF) (xs : Es)
  | comp (elt : E) (tg : Tg) (ik : IK) (its : Es) (cond : T) (own : List (Str × Nat))
  | tget (i : Nat) (f : TF)
  | pop (i : Nat)
  | popAt (i : Nat) (a : E)
  | p1 (f : P1) (a : E)
  | p2 (f : P2) (a b : E)
inductive Es where
  | nil
  | cons (e : E) (es : Es)
/-- tests -/
inductive T where
  | val (e : E)
  | cmp (o : CO) (a b : E) | isN (a : E) | notN (a : E)
  | and_ (a b : T) | or_ (a b : T) | not_ (a : T)
  | chain (o o' : CO) (a b c : E)
  | p1 (f : P1) (a : E)
  | yes
/-- the parts of a slice -/
inductive O where
  | miss
  | val (e : E)
end

/-! ### data -/
def okLen (n : Nat) : Bool := decide (n ≤ 100000)
def bitsOk (i j : Int) : Bool := decide (Builtin.Int.intBits i + Builtin.Int.intBits j ≤ 134217728)
def binD : BO → D → D → Option Rv
  | .add, .int i, .int j => some (.sh (.d (.int (i + j))))
  | .add, .list xs, .list ys => if okLen (xs.length + ys.length) then some (.fr (xs ++ ys)) else none
  | .add, .tuple xs, .tuple ys => if okLen (xs.length + ys.length) then some (.sh (.d (.tuple (xs ++ ys)))) else none
  | .add, .str x, .str y => if okLen (x.length + y.length) then some (.sh (.d (.str (x ++ y)))) else none
  | .sub, .int i, .int j => some (.sh (.d (.int (i - j))))
  | .mul, .int i, .int j => if bitsOk i j then some (.sh (.d (.int (i * j)))) else none
  | .mul, .list xs, .int k => if decide (0 ≤ k) && decide (k ≤ 1000) && decide (xs.length ≤ 1000) && okLen (xs.length * k.toNat) then some (.fr (List.replicate k.toNat xs).flatten) else none
  | .mul, .tuple xs, .int k => if decide (0 ≤ k) && decide (k ≤ 1000) && decide (xs.length ≤ 1000) then some (.sh (.d (.tuple (List.replicate k.toNat xs).flatten))) else none
  | .fdiv, .int i, .int j => if j = 0 || !decide (j.natAbs.log2 < 9000) then none else some (.sh (.d (.int (i.fdiv j))))
  | .mod, .int i, .int j => if j = 0 then none else some (.sh (.d (.int (i.fmod j))))
  | _, _, _ => none
def seqOf : D → Option (List D)
  | .list xs => some xs
  | .tuple xs => some xs
  | _ => none
def inD (x : D) (c : D) : Option Bool :=
  if SeqAt.shaped x && SeqAt.shaped c then (seqOf c).map fun xs => xs.any fun z => PyData.eqv z x else none
def cmpD : CO → D → D → Option Bool
  | .eq, x, y => if SeqAt.shaped x && SeqAt.shaped y then some (PyData.eqv x y) else none
  | .ne, x, y => if SeqAt.shaped x && SeqAt.shaped y then some (!PyData.eqv x y) else none
  | .lt, .int i, .int j => some (decide (i < j))
  | .le, .int i, .int j => some (decide (i ≤ j))
  | .gt, .int i, .int j => some (decide (j < i))
  | .ge, .int i, .int j => some (decide (j ≤ i))
  | .in_, x, y => inD x y
  | .notin, x, y => (inD x y).map not
  | _, _, _ => none
def truthD : D → Option Bool
  | .none => some false
  | .bool b => some b
  | .int i => some (i != 0)
  | .str s => if okLen s.length then some ((s.length : Int) != 0) else none
  | .list xs => some (!xs.isEmpty)
  | .tuple xs => some (!xs.isEmpty)
  | .dict _ => none
def isNone : D → Bool
  | .none => true
  | _ => false
def idxD : D → D → Option D
  | .list xs, .int i => atI xs i
  | .tuple xs, .int i => atI xs i
  | _, _ => none
def partD : Option D → Option (Option Int)
  | none => some none
  | some (.int i) => some (some i)
  | some _ => none
def cutD (xs : List D) (lo hi : Option Int) : List D := (xs.drop (HT.sIx xs.length 0 lo)).take (HT.sIx xs.length xs.length hi - HT.sIx xs.length 0 lo)
def sliD : D → Option Int → Option Int → Option Rv
  | .list xs, lo, hi => some (.fr (cutD xs lo hi))
  | .tuple xs, lo, hi => some (.sh (.d (.tuple (cutD xs lo hi))))
  | _, _, _ => none
def intsD : List D → Option (List Int)
  | [] => some []
  | .int i :: r => (intsD r).map (i :: ·)
  | _ :: _ => none
def boolsD : List D → Option (List Bool)
  | [] => some []
  | .bool b :: r => (boolsD r).map (b :: ·)
  | _ :: _ => none
/-- the greatest (the first of equals), the least -/
def maxI (i : Int) (r : List Int) : Int := r.foldl max i
def minI (i : Int) (r : List Int) : Int := r.foldl min i
def rangeD (lo : Int) (n : Nat) : List D := (List.range n).map fun i => .int (lo + (i : Nat))
def small62 (i : Int) : Bool := match i with
  | .ofNat n => Nat.blt n 4611686018427387904
  | .negSucc n => Nat.blt n 4611686018427387904
theorem small62_eq (i : Int) : small62 i = (decide (-(2 ^ 62) ≤ i) && decide (i < 2 ^ 62)) := by
  cases i with
  | ofNat n =>
    show Nat.blt n 4611686018427387904 = _
    rw [Bool.eq_iff_iff]
    simp
    omega
  | negSucc n =>
    show Nat.blt n 4611686018427387904 = _
    rw [Bool.eq_iff_iff]
    simp
    omega
/-- what sorted takes: ints; tuples of ints, none empty -/
def isIntD : D → Bool
  | .int _ => true
  | _ => false
def tupIntD : D → Bool
  | .tuple (x :: r) => (x :: r).all isIntD
  | _ => false
def sortOk (xs : List D) : Bool := (xs.all isIntD || xs.all tupIntD) && okLen xs.length
def sortD (xs : List D) : List D := xs.mergeSort (PySem.W.dataLe false id)
def bltD : BF → List D → Option Rv
  | .len, [.list xs] => some (.sh (.d (.int xs.length)))
  | .len, [.tuple xs] => some (.sh (.d (.int xs.length)))
  | .abs, [.int i] => some (.sh (.d (.int (if i < 0 then -i else i))))
  | .int, [.int i] => some (.sh (.d (.int i)))
  | .int, [.bool b] => some (.sh (.d (.int (if b then 1 else 0))))
  | .max, [.int i, .int j] => some (.sh (.d (.int (if j > i then j else i))))
  | .min, [.int i, .int j] => some (.sh (.d (.int (if j < i then j else i))))
  | .max, [x] => match (seqOf x).bind intsD with
    | some (i :: r) => some (.sh (.d (.int (maxI i r))))
    | _ => none
  | .min, [x] => match (seqOf x).bind intsD with
    | some (i :: r) => some (.sh (.d (.int (minI i r))))
    | _ => none
  | .sum, [x] => ((seqOf x).bind intsD).map fun ns => .sh (.d (.int ns.sum))
  | .all, [.list xs] => (boolsD xs).map fun bs => .sh (.d (.bool (bs.all id)))
  | .any, [.list xs] => (boolsD xs).map fun bs => .sh (.d (.bool (bs.any id)))
  | .tuple, [.list xs] => some (.sh (.d (.tuple xs)))
  | .tuple, [.tuple xs] => some (.sh (.d (.tuple xs)))
  | .list, [.list xs] => some (.fr xs)
  | .list, [.tuple xs] => some (.fr xs)
  | .sorted, [.list xs] => if sortOk xs then some (.fr (sortD xs)) else none
  | _, _ => none
def zipD : List D → List D → List D
  | x :: xs, y :: ys => .tuple [x, y] :: zipD xs ys
  | _, _ => []
def enumD : Nat → List D → List D
  | _, [] => []
  | n, x :: xs => .tuple [.int (n : Nat), x] :: enumD (n + 1) xs
def itemsD : IK → List D → Option (List D)
  | .seq, [x] => seqOf x
  | .range1, [.int n] => if small62 n then some (rangeD 0 n.toNat) else none
  | .range2, [.int a, .int b] => if small62 a && small62 b then some (rangeD a (b - a).toNat) else none
  | .zip, [x, y] => (seqOf x).bind fun xs => (seqOf y).map fun ys => zipD xs ys
  | .enum, [x] => (seqOf x).map (enumD 0)
  | .rev, [x] => (seqOf x).map List.reverse
  | _, _ => none

def prim1 : P1 → D → Option Rv
  | .listRange, .int n => if small62 n && okLen n.toNat then some (.fr (rangeD 0 n.toNat)) else none
  | .lenSet, .tuple xs => match intsD xs with
    | some ns => if decide ns.Nodup && decide (ns.length < 64) then some (.sh (.d (.int ns.length))) else none
    | none => none
  | .isB b, .bool c => some (.sh (.d (.bool (c == b))))
  | .notB b, .bool c => some (.sh (.d (.bool (!(c == b)))))
  | _, _ => none
def prim2 : P2 → D → D → Option Rv
  | .index, .list xs, y => if SeqAt.shaped (.list xs) && SeqAt.shaped y then (xs.findIdx? fun z => PyData.eqv z y).map fun j => .sh (.d (.int (j : Nat))) else none
  | _, _, _ => none

/-! ### slots -/
def look (env : Env) : Rv → Option Va
  | .sh v => some v
  | .fr xs => some (.d (.list xs))
  | .br i => match env[i]? with
    | some (some (.sh v)) => some v
    | some (some (.own xs)) => some (.d (.list xs))
    | _ => none
def lookD (env : Env) (r : Rv) : Option D := match look env r with
  | some (.d x) => some x
  | _ => none
def lookDs (env : Env) : List Rv → Option (List D)
  | [] => some []
  | r :: rs => (lookD env r).bind fun x => (lookDs env rs).map (x :: ·)
def share (env : Env) : Rv → Option (Va × Env)
  | .sh v => some (v, env)
  | .fr xs => some (.d (.list xs), env)
  | .br i => match env[i]? with
    | some (some (.sh v)) => some (v, env)
    | some (some (.own xs)) => some (.d (.list xs), env.set i (some (.sh (.d (.list xs)))))
    | _ => none
def shareAll (env : Env) : List Rv → Option (List Va × Env)
  | [] => some ([], env)
  | r :: rs => (share env r).bind fun p => (shareAll p.2 rs).map fun q => (p.1 :: q.1, q.2)
def dats : List Va → Option (List D)
  | [] => some []
  | .d x :: r => (dats r).map (x :: ·)
  | .tp :: _ => none
def unfr : Rv → Rv
  | .fr xs => .sh (.d (.list xs))
  | r => r
def of? {α β : Type} (x : Option α) (f : α → R β) : R β := match x with
  | some a => f a
  | none => .stuck
mutual
def setTg : Tg → D → Env → Option Env
  | .name i, x, env => some (env.set i (some (.sh (.d x))))
  | .tup ts, .tuple xs, env => setTgs ts xs env
  | .tup _, _, _ => none
def setTgs : List Tg → List D → Env → Option Env
  | [], [], env => some env
  | t :: ts, x :: xs, env => (setTg t x env).bind fun e => setTgs ts xs e
  | _, _, _ => none
end
def wipeE (env : Env) : List Nat → Env
  | [] => env
  | v :: vs => (wipeE env vs).set v none
/-- the slots at vs as they were -/
def backE (env0 : Env) (env : Env) : List Nat → Env
  | [] => env
  | v :: vs => (backE env0 env vs).set v (env0[v]?.getD none)
def noOwn (env : Env) (vs : List Nat) : Bool := vs.all fun v => match env[v]? with
  | some (some (.own _)) => false
  | some _ => true
  | none => false
/-- the slots without one's own lists -/
def dropOwn (env : Env) : Env := env.map fun
  | some (.own _) => none
  | s => s
def tapeGet (τ : Tp) : TF → D
  | .cells => .list (τ.cells.map .int)
  | .at_ => .int τ.at_
  | .left => .int τ.left
  | .seed => .int τ.seed
  | .salt => .int τ.salt
def tapeSet (τ : Tp) (k : Int) : TF → Option Tp
  | .cells => none
  | .at_ => some { τ with at_ := k }
  | .left => some { τ with left := k }
  | .seed => some { τ with seed := k }
  | .salt => some { τ with salt := k }
def compLoop (fe : Env → Tp → R Rv) (ft : Env → Tp → R Bool) (tg : Tg) (vs : List Nat) : List D → List D → Env → Tp → R (List D)
  | [], acc, env, τ => .ok acc env τ
  | x :: xs, acc, env, τ => match setTg tg x (wipeE env vs) with
    | none => .stuck
    | some env2 => match ft env2 τ with
      | .ok false env3 τ3 => compLoop fe ft tg vs xs acc env3 τ3
      | .ok true env3 τ3 => match fe env3 τ3 with
        | .ok rv env4 τ4 => match share env4 rv with
          | some (.d y, env5) => compLoop fe ft tg vs xs (acc ++ [y]) env5 τ4
          | _ => .stuck
        | _ => .stuck
      | _ => .stuck

section
variable (Φ : Orc)
mutual
/-- a value -/
def ev : E → Env → Tp → R Rv
  | .var i, env, τ => match env[i]? with
    | some (some _) => .ok (.br i) env τ
    | _ => .stuck
  | .cI i, env, τ => .ok (.sh (.d (.int i))) env τ
  | .cB b, env, τ => .ok (.sh (.d (.bool b))) env τ
  | .cN, env, τ => .ok (.sh (.d .none)) env τ
  | .cS s, env, τ => .ok (.sh (.d (.str s))) env τ
  | .glo _ x, env, τ => .ok (.sh (.d x)) env τ
  | .neg a, env, τ => (ev a env τ).bind fun r env τ => match lookD env (unfr r) with
    | some (.int i) => .ok (.sh (.d (.int (-i)))) env τ
    | _ => .stuck
  | .not_ a, env, τ => (ev a env τ).bind fun r env τ => of? ((lookD env (unfr r)).bind truthD) fun b => .ok (.sh (.d (.bool !b))) env τ
  | .bin o a b, env, τ => (ev a env τ).bind fun r env τ => (ev b env τ).bind fun q env τ =>
    of? (lookD env (unfr r)) fun x => of? (lookD env (unfr q)) fun y => of? (binD o x y) fun z => .ok z env τ
  | .cmp o a b, env, τ => (ev a env τ).bind fun r env τ => (ev b env τ).bind fun q env τ =>
    of? (lookD env (unfr r)) fun x => of? (lookD env (unfr q)) fun y => of? (cmpD o x y) fun z => .ok (.sh (.d (.bool z))) env τ
  | .isN a, env, τ => (ev a env τ).bind fun r env τ => of? (lookD env (unfr r)) fun x => .ok (.sh (.d (.bool (isNone x)))) env τ
  | .notN a, env, τ => (ev a env τ).bind fun r env τ => of? (lookD env (unfr r)) fun x => .ok (.sh (.d (.bool (!isNone x)))) env τ
  | .chain o o' a b c, env, τ => (ev a env τ).bind fun r env τ => (ev b env τ).bind fun q env τ =>
    of? (lookD env (unfr r)) fun x => of? (lookD env (unfr q)) fun y => of? (cmpD o x y) fun z => match z with
      | false => .ok (.sh (.d (.bool false))) env τ
      | true => (ev c env τ).bind fun p env τ => of? (lookD env (unfr q)) fun y => of? (lookD env (unfr p)) fun u => of? (cmpD o' y u) fun z => .ok (.sh (.d (.bool z))) env τ
  | .and_ a b, env, τ => (ev a env τ).bind fun r env τ => of? ((lookD env (unfr r)).bind truthD) fun t => match t with
    | true => ev b env τ
    | false => .ok (unfr r) env τ
  | .or_ a b, env, τ => (ev a env τ).bind fun r env τ => of? ((lookD env (unfr r)).bind truthD) fun t => match t with
    | true => .ok (unfr r) env τ
    | false => ev b env τ
  | .ite t a b, env, τ => (evT t env τ).bind fun c env τ => match c with
    | true => ev a env τ
    | false => ev b env τ
  | .tup xs, env, τ => (evA xs env τ).bind fun rs env τ => of? (shareAll env rs) fun p => of? (dats p.1) fun ds => if okLen ds.length then .ok (.sh (.d (.tuple ds))) p.2 τ else .stuck
  | .lst xs, env, τ => (evA xs env τ).bind fun rs env τ => of? (shareAll env rs) fun p => of? (dats p.1) fun ds => if okLen ds.length then .ok (.fr ds) p.2 τ else .stuck
  | .idx a i, env, τ => (ev a env τ).bind fun r env τ => (ev i env τ).bind fun q env τ =>
    of? (lookD env (unfr r)) fun x => of? (lookD env (unfr q)) fun y => of? (idxD x y) fun z => .ok (.sh (.d z)) env τ
  | .sli a lo hi, env, τ => (ev a env τ).bind fun r env τ => (evO lo env τ).bind fun l env τ => (evO hi env τ).bind fun h env τ =>
    of? (lookD env (unfr r)) fun x => of? (sliD x l h) fun z => .ok z env τ
  | .call f xs, env, τ => (evA xs env τ).bind fun rs env τ => of? (shareAll env rs) fun p => match Φ f p.1 τ with
    | .ok v τ' => .ok (.sh v) p.2 τ'
    | .err c τ' => .err c τ'
    | .stuck => .stuck
  | .refused _ cl e, env, τ => match ev e (dropOwn env) τ with
    | .ok _ _ τ' => .ok (.sh (.d (.bool false))) env τ'
    | .err c τ' => if c = cl then .ok (.sh (.d (.bool true))) env τ' else .stuck
    | .stuck => .stuck
  | .blt f xs, env, τ => (evA xs env τ).bind fun rs env τ => of? (lookDs env rs) fun ds => of? (bltD f ds) fun z => .ok z env τ
  | .comp elt tg ik its cond own, env, τ => (evA its env τ).bind fun rs env τ => of? (shareAll env rs) fun p => of? (dats p.1) fun ds => of? (itemsD ik ds) fun xs =>
    if noOwn p.2 (own.map (·.2)) && okLen xs.length then (compLoop (ev elt) (evT cond) tg (own.map (·.2)) xs [] p.2 τ).bind fun ys env' τ' => .ok (.fr ys) (backE p.2 env' (own.map (·.2))) τ' else .stuck
  | .tget i f, env, τ => match env[i]? with
    | some (some (.sh .tp)) => .ok (.sh (.d (tapeGet τ f))) env τ
    | _ => .stuck
  | .pop i, env, τ => match env[i]? with
    | some (some (.own xs)) => of? (xs[xs.length - 1]?) fun x => .ok (.sh (.d x)) (env.set i (some (.own xs.dropLast))) τ
    | _ => .stuck
  | .popAt i a, env, τ => match env[i]? with
    | some (some (.own _)) => (ev a env τ).bind fun r env τ => match env[i]?, lookD env (unfr r) with
      | some (some (.own xs)), some (.int k) => if decide (0 ≤ k) && decide (k < xs.length) && small62 k then of? (xs[k.toNat]?) fun x => .ok (.sh (.d x)) (env.set i (some (.own (xs.eraseIdx k.toNat)))) τ else .stuck
      | _, _ => .stuck
    | _ => .stuck
  | .p1 f a, env, τ => (ev a env τ).bind fun r env τ => of? (lookD env (unfr r)) fun x => of? (prim1 f x) fun z => .ok z env τ
  | .p2 f a b, env, τ => (ev a env τ).bind fun r env τ => match lookD env (unfr r) with
    | some (.list _) => (ev b env τ).bind fun q env τ => of? (lookD env (unfr r)) fun x => of? (lookD env (unfr q)) fun y => of? (prim2 f x y) fun z => .ok z env τ
    | _ => .stuck
/-- a test -/
def evT : T → Env → Tp → R Bool
  | .yes, env, τ => .ok true env τ
  | .val e, env, τ => (ev e env τ).bind fun r env τ => of? ((lookD env (unfr r)).bind truthD) fun b => .ok b env τ
  | .cmp o a b, env, τ => ((ev a env τ).bind fun r env τ => (ev b env τ).bind fun q env τ =>
    of? (lookD env (unfr r)) fun x => of? (lookD env (unfr q)) fun y => of? (cmpD o x y) fun z => .ok (.sh (.d (.bool z))) env τ).bind fun r env τ => of? ((lookD env (unfr r)).bind truthD) fun b => .ok b env τ
  | .isN a, env, τ => ((ev a env τ).bind fun r env τ => of? (lookD env (unfr r)) fun x => .ok (.sh (.d (.bool (isNone x)))) env τ).bind fun r env τ => of? ((lookD env (unfr r)).bind truthD) fun b => .ok b env τ
  | .notN a, env, τ => ((ev a env τ).bind fun r env τ => of? (lookD env (unfr r)) fun x => .ok (.sh (.d (.bool (!isNone x)))) env τ).bind fun r env τ => of? ((lookD env (unfr r)).bind truthD) fun b => .ok b env τ
  | .p1 f a, env, τ => ((ev a env τ).bind fun r env τ => of? (lookD env (unfr r)) fun x => of? (prim1 f x) fun z => .ok z env τ).bind fun r env τ => of? ((lookD env (unfr r)).bind truthD) fun b => .ok b env τ
  | .and_ a b, env, τ => (evT a env τ).bind fun c env τ => match c with
    | true => evT b env τ
    | false => .ok false env τ
  | .or_ a b, env, τ => (evT a env τ).bind fun c env τ => match c with
    | true => .ok true env τ
    | false => evT b env τ
  | .not_ a, env, τ => (evT a env τ).bind fun c env τ => .ok (!c) env τ
  | .chain o o' a b c, env, τ => (ev a env τ).bind fun r env τ => (ev b env τ).bind fun q env τ =>
    of? (lookD env (unfr r)) fun x => of? (lookD env (unfr q)) fun y => of? (cmpD o x y) fun z => match z with
      | false => .ok false env τ
      | true => (ev c env τ).bind fun p env τ => of? (lookD env (unfr q)) fun y => of? (lookD env (unfr p)) fun u => of? (cmpD o' y u) fun z => .ok z env τ
/-- a part of a slice -/
def evO : O → Env → Tp → R (Option Int)
  | .miss, env, τ => .ok none env τ
  | .val e, env, τ => (ev e env τ).bind fun r env τ => match lookD env (unfr r) with
    | some (.int i) => .ok (some i) env τ
    | _ => .stuck
/-- arguments, from the left -/
def evA : Es → Env → Tp → R (List Rv)
  | .nil, env, τ => .ok [] env τ
  | .cons e es, env, τ => (ev e env τ).bind fun r env τ => (evA es env τ).bind fun rs env τ => .ok (unfr r :: rs) env τ
end
end
end Dv

set_option Elab.async false
set_option linter.all false
set_option maxRecDepth 100000
/-! Dv2: statements; how slots and heap stand for each other. -/
namespace Dv
open PySem PySem.Spec PyProof.Rows L2

mutual
inductive S where
  | set (i : Nat) (e : E)
  | par (is : List Nat) (es : Es)
  | unp (tg : Tg) (e : E)
  | aug (i : Nat) (o : BO) (e : E)
  | setIx (i : Nat) (ix e : E)
  | tset (i : Nat) (f : TF) (e : E)
  | append (i : Nat) (e : E)
  | extend (i : Nat) (e : E)
  | expr (e : E)
  | ret (e : E) | retN
  | raise (c : Str)
  | tryRet (e : E) (cl : Str)
  | ifS (t : T) (a b : Ss)
  | forS (tg : Tg) (ik : IK) (its : Es) (body : Ss)
  | whileS (fuel : Env → Tp → Nat) (t : T) (body : Ss)
  | brk | cnt | pass
inductive Ss where
  | nil
  | cons (s : S) (r : Ss)
end
inductive SR where
  | nx (env : Env) (τ : Tp)
  | ret (v : Va) (τ : Tp)
  | brk (env : Env) (τ : Tp)
  | cnt (env : Env) (τ : Tp)
  | err (c : Str) (τ : Tp)
  | stuck
def R.st {α : Type} : R α → (α → Env → Tp → SR) → SR
  | .ok a env τ, f => f a env τ
  | .err c τ, _ => .err c τ
  | .stuck, _ => .stuck
def ofS {α : Type} (x : Option α) (f : α → SR) : SR := match x with
  | some a => f a
  | none => .stuck
def SR.seq : SR → (Env → Tp → SR) → SR
  | .nx env τ, f => f env τ
  | r, _ => r
/-- what goes into a slot -/
def slotOf (env : Env) : Rv → Option (Sl × Env)
  | .fr xs => some (.own xs, env)
  | r => (share env r).map fun p => (.sh p.1, p.2)
def setAll : List Nat → List Sl → Env → Option Env
  | [], [], env => some env
  | i :: is, s :: ss, env => (setAll is ss env).map fun e => e.set i (some s)
  | _, _, _ => none
def forLoop (f : Env → Tp → SR) (tg : Tg) : List D → Env → Tp → SR
  | [], env, τ => .nx env τ
  | x :: xs, env, τ => match setTg tg x env with
    | none => .stuck
    | some env1 => match f env1 τ with
      | .nx env2 τ2 => forLoop f tg xs env2 τ2
      | .cnt env2 τ2 => forLoop f tg xs env2 τ2
      | .brk env2 τ2 => .nx env2 τ2
      | r => r
def whileLoop (t : Env → Tp → R Bool) (f : Env → Tp → SR) : Nat → Env → Tp → SR
  | 0, _, _ => .stuck
  | n + 1, env, τ => match t env τ with
    | .ok true env1 τ1 => match f env1 τ1 with
      | .nx env2 τ2 => whileLoop t f n env2 τ2
      | .cnt env2 τ2 => whileLoop t f n env2 τ2
      | .brk env2 τ2 => .nx env2 τ2
      | r => r
    | .ok false env1 τ1 => .nx env1 τ1
    | .err c τ1 => .err c τ1
    | .stuck => .stuck
section
variable (Φ : Orc)
/-- values for slots, from the left: fresh lists stay one's own -/
def evP : Es → Env → Tp → R (List Sl)
  | .nil, env, τ => .ok [] env τ
  | .cons e es, env, τ => (ev Φ e env τ).bind fun r env τ => of? (slotOf env r) fun p => (evP es p.2 τ).bind fun ss env τ => .ok (p.1 :: ss) env τ
mutual
def ex : S → Env → Tp → SR
  | .set i e, env, τ => (ev Φ e env τ).st fun r env τ => ofS (slotOf env r) fun p => .nx (p.2.set i (some p.1)) τ
  | .par is es, env, τ => (evP Φ es env τ).st fun ss env τ => ofS (setAll is ss env) fun env => .nx env τ
  | .unp tg e, env, τ => (ev Φ e env τ).st fun r env τ => ofS (share env r) fun p => match p.1 with
    | .d x => ofS (setTg tg x p.2) fun env => .nx env τ
    | .tp => .stuck
  | .aug i o e, env, τ => match lookD env (.br i) with
    | some x => (ev Φ e env τ).st fun r env τ => ofS (lookD env (unfr r)) fun y => match o, x, y with
      | .add, .int a, .int b => .nx (env.set i (some (.sh (.d (.int (a + b)))))) τ
      | .sub, .int a, .int b => .nx (env.set i (some (.sh (.d (.int (a - b)))))) τ
      | _, _, _ => .stuck
    | none => .stuck
  | .setIx i ix e, env, τ => (ev Φ e env τ).st fun r env τ => ofS (share env r) fun p => match p.2[i]? with
    | some (some (.own _)) => (ev Φ ix p.2 τ).st fun q env τ => match env[i]?, lookD env (unfr q), p.1 with
      | some (some (.own xs)), some (.int k), .d x => ofS (ixN xs.length k) fun j => .nx (env.set i (some (.own (xs.set j x)))) τ
      | _, _, _ => .stuck
    | _ => .stuck
  | .tset i f e, env, τ => (ev Φ e env τ).st fun r env τ => match env[i]?, lookD env (unfr r) with
    | some (some (.sh .tp)), some (.int k) => ofS (tapeSet τ k f) fun τ => .nx env τ
    | _, _ => .stuck
  | .append i e, env, τ => match env[i]? with
    | some (some (.own _)) => (ev Φ e env τ).st fun r env τ => ofS (share env r) fun p => match p.2[i]?, p.1 with
      | some (some (.own xs)), .d x => if okLen xs.length then .nx (p.2.set i (some (.own (xs ++ [x])))) τ else .stuck
      | _, _ => .stuck
    | _ => .stuck
  | .extend i e, env, τ => match env[i]? with
    | some (some (.own _)) => (ev Φ e env τ).st fun r env τ => ofS (share env r) fun p => match p.2[i]?, p.1 with
      | some (some (.own xs)), .d (.list ys) => if okLen (xs.length + ys.length) then .nx (p.2.set i (some (.own (xs ++ ys)))) τ else .stuck
      | _, _ => .stuck
    | _ => .stuck
  | .expr e, env, τ => (ev Φ e env τ).st fun _ env τ => .nx env τ
  | .ret e, env, τ => (ev Φ e env τ).st fun r env τ => ofS (share env r) fun p => .ret p.1 τ
  | .retN, _, τ => .ret (.d .none) τ
  | .raise c, _, τ => .err c τ
  | .tryRet e cl, env, τ => match ev Φ e (dropOwn env) τ with
    | .ok r env τ => ofS (share env r) fun p => .ret p.1 τ
    | .err c τ' => if c = cl then .ret (.d .none) τ' else .stuck
    | .stuck => .stuck
  | .ifS t a b, env, τ => (evT Φ t env τ).st fun c env τ => match c with
    | true => exs a env τ
    | false => exs b env τ
  | .forS tg ik its body, env, τ => (evA Φ its env τ).st fun rs env τ => ofS (shareAll env rs) fun p => ofS (dats p.1) fun ds => ofS (itemsD ik ds) fun xs => forLoop (exs body) tg xs p.2 τ
  | .whileS fuel t body, env, τ => whileLoop (evT Φ t) (exs body) (fuel env τ) env τ
  | .brk, env, τ => .brk env τ
  | .cnt, env, τ => .cnt env τ
  | .pass, env, τ => .nx env τ
def exs : Ss → Env → Tp → SR
  | .nil, env, τ => .nx env τ
  | .cons s r, env, τ => (ex s env τ).seq (exs r)
end
/-- a def: n slots; what it gives for its arguments -/
def run (n : Nat) (body : Ss) (vs : List Va) (τ : Tp) : FR := match exs Φ body (vs.map (fun v => some (.sh v)) ++ List.replicate (n - vs.length) none) τ with
  | .ret v τ' => .ok v τ'
  | .nx _ τ' => .ok (.d .none) τ'
  | .err c τ' => .err c τ'
  | _ => .stuck
end

/-! ### slots and heap -/
def Sub (H H' : Hp) : Prop := ∀ a o, H a = some o → H' a = some o
theorem Sub.refl (H : Hp) : Sub H H := fun _ _ h => h
theorem Sub.trans {H H1 H2 : Hp} (a : Sub H H1) (b : Sub H1 H2) : Sub H H2 := fun x o h => b x o (a x o h)
theorem Sub.new {H : Hp} {p : Addr} {o : HO} (h : H p = none) : Sub H (upd H p o) := fun a u e => by
  rw [upd_ne (ne_of_none e h)]
  exact e
theorem Sub.upd {H H' : Hp} {p : Addr} {o : HO} (s : Sub H H') : Sub (upd H p o) (upd H' p o) := fun a u e => by
  by_cases h : a = p
  · rw [h, upd_same] at e
    rw [h, upd_same]
    exact e
  · rw [upd_ne h] at e
    rw [upd_ne h]
    exact s a u e
theorem Sub.mut {H H' : Hp} {p : Addr} {o : HO} (s : Sub H H') (h : H p = none) : Sub H (L2.upd H' p o) := fun a u e => by
  rw [upd_ne (ne_of_none e h)]
  exact s a u e
theorem Sub.none {H H' : Hp} {p : Addr} (s : Sub H H') (h : H' p = none) : H p = none := by
  cases q : H p with
  | none => rfl
  | some o =>
    rw [s p o q] at h
    cases h
theorem sub_rd {H H' : Hp} {a : Addr} {u : HO} (e : Sub H H') (h : Rd H a u) : Rd H' a u := by
  rcases h with h | ⟨o, h⟩
  · exact .inl (e a _ h)
  · exact .inr ⟨o, e a _ h⟩

mutual
/-- a value stands for data -/
inductive Rp (K : PySem.W.Frag) (H : Hp) : V → D → Prop
  | non : Rp K H .non .none
  | bl (b : Bool) : Rp K H (.bl b) (.bool b)
  | int (i : Int) : Rp K H (.int i) (.int i)
  | str (x : Str) : Rp K H (.str x) (.str x)
  | lst {a : Addr} {xs : List V} {ds : List D} : H a = some (.lst xs) → RpAll K H xs ds → Rp K H (.ref a) (.list ds)
  | tup {a : Addr} {xs : List V} {ds : List D} : SqT K H a xs → RpAll K H xs ds → Rp K H (.ref a) (.tuple ds)
inductive RpAll (K : PySem.W.Frag) (H : Hp) : List V → List D → Prop
  | nil : RpAll K H [] []
  | cons {v : V} {vs : List V} {d : D} {ds : List D} : Rp K H v d → RpAll K H vs ds → RpAll K H (v :: vs) (d :: ds)
end
section
variable {K : PySem.W.Frag} {H H' : Hp}
theorem sub_l {a : Addr} {xs : List V} (e : Sub H H') (h : SqL K H a xs) : SqL K H' a xs := by
  rcases h with h | h
  · exact .inl (sub_rd e h)
  · exact .inr h
theorem sub_t {a : Addr} {xs : List V} (e : Sub H H') (h : SqT K H a xs) : SqT K H' a xs := by
  rcases h with h | h
  · exact .inl (sub_rd e h)
  · exact .inr h
mutual
theorem rp_sub (e : Sub H H') : ∀ (d : D) (v : V), Rp K H v d → Rp K H' v d
  | .none, _, h => by cases h; exact .non
  | .bool _, _, h => by cases h; exact .bl _
  | .int _, _, h => by cases h; exact .int _
  | .str _, _, h => by cases h; exact .str _
  | .list xs, _, h => by
    cases h with
    | lst a b => exact .lst (e _ _ a) (rpAll_sub e xs _ b)
  | .tuple xs, _, h => by
    cases h with
    | tup a b => exact .tup (sub_t e a) (rpAll_sub e xs _ b)
  | .dict _, _, h => by cases h
theorem rpAll_sub (e : Sub H H') : ∀ (ds : List D) (vs : List V), RpAll K H vs ds → RpAll K H' vs ds
  | [], _, h => by cases h; exact .nil
  | d :: ds, _, h => by
    cases h with
    | cons a b => exact .cons (rp_sub e d _ a) (rpAll_sub e ds _ b)
end
mutual
theorem rp_dp : ∀ (d : D) (v : V), Rp K H v d → Dp K H v d
  | .none, _, h => by cases h; exact .non
  | .bool _, _, h => by cases h; exact .bl _
  | .int _, _, h => by cases h; exact .int _
  | .str _, _, h => by cases h; exact .str _
  | .list xs, _, h => by
    cases h with
    | lst a b => exact .lst (SqL.of a) (rpAll_dp xs _ b)
  | .tuple xs, _, h => by
    cases h with
    | tup a b => exact .tup a (rpAll_dp xs _ b)
  | .dict _, _, h => by cases h
theorem rpAll_dp : ∀ (ds : List D) (vs : List V), RpAll K H vs ds → DpAll K H vs ds
  | [], _, h => by cases h; exact .nil
  | d :: ds, _, h => by
    cases h with
    | cons a b => exact .cons (rp_dp d _ a) (rpAll_dp ds _ b)
end
theorem Rp.dp {v : V} {d : D} (h : Rp K H v d) : Dp K H v d := rp_dp d v h
theorem RpAll.dp {vs : List V} {ds : List D} (h : RpAll K H vs ds) : DpAll K H vs ds := rpAll_dp ds vs h
theorem Rp.sub {v : V} {d : D} (h : Rp K H v d) (e : Sub H H') : Rp K H' v d := rp_sub e d v h
theorem RpAll.sub {vs : List V} {ds : List D} (h : RpAll K H vs ds) (e : Sub H H') : RpAll K H' vs ds := rpAll_sub e ds vs h
theorem RpAll.length {vs : List V} : ∀ {ds : List D}, RpAll K H vs ds → vs.length = ds.length
  | _, .nil => rfl
  | _, .cons _ t => congrArg (· + 1) (RpAll.length t)
theorem RpAll.get {vs : List V} : ∀ {ds : List D} {i : Nat} {d : D}, RpAll K H vs ds → ds[i]? = some d → ∃ v, vs[i]? = some v ∧ Rp K H v d
  | _, _, _, .nil, e => by simp at e
  | _, 0, _, .cons h _, e => by
    simp at e
    subst e
    exact ⟨_, rfl, h⟩
  | _, i + 1, _, .cons _ t, e => by
    obtain ⟨v, h1, h2⟩ := RpAll.get (i := i) t (by simpa using e)
    exact ⟨v, by simpa using h1, h2⟩
theorem RpAll.append {vs ws : List V} : ∀ {ds es : List D}, RpAll K H vs ds → RpAll K H ws es → RpAll K H (vs ++ ws) (ds ++ es)
  | _, _, .nil, b => b
  | _, _, .cons h t, b => .cons h (RpAll.append t b)
theorem RpAll.set {v : V} {d : D} (h : Rp K H v d) {vs : List V} : ∀ {ds : List D} (i : Nat), RpAll K H vs ds → RpAll K H (vs.set i v) (ds.set i d)
  | _, _, .nil => .nil
  | _, 0, .cons _ t => .cons h t
  | _, i + 1, .cons a t => .cons a (RpAll.set h i t)
theorem RpAll.take {vs : List V} : ∀ {ds : List D} (n : Nat), RpAll K H vs ds → RpAll K H (vs.take n) (ds.take n)
  | _, 0, _ => .nil
  | _, _ + 1, .nil => .nil
  | _, n + 1, .cons a t => .cons a (RpAll.take n t)
theorem RpAll.drop {vs : List V} : ∀ {ds : List D} (n : Nat), RpAll K H vs ds → RpAll K H (vs.drop n) (ds.drop n)
  | _, 0, h => h
  | _, _ + 1, .nil => .nil
  | _, n + 1, .cons _ t => RpAll.drop n t
theorem RpAll.reverse {vs : List V} : ∀ {ds : List D}, RpAll K H vs ds → RpAll K H vs.reverse ds.reverse
  | _, .nil => .nil
  | _, .cons a t => by
    rw [List.reverse_cons, List.reverse_cons]
    exact RpAll.append (RpAll.reverse t) (.cons a .nil)
theorem RpAll.rep {vs : List V} {ds : List D} (h : RpAll K H vs ds) : ∀ n : Nat, RpAll K H (List.replicate n vs).flatten (List.replicate n ds).flatten
  | 0 => .nil
  | n + 1 => by
    rw [List.replicate_succ, List.replicate_succ, List.flatten_cons, List.flatten_cons]
    exact RpAll.append h (RpAll.rep h n)
end
/-- what stays through a def's run: the written part, the module's names, the tape's address, the heap at the entry and what of it is known as data -/
structure Fc where
  K : PySem.W.Frag
  mg : Str → Option Value
  T : Addr
  H0 : Hp
  Hs0 : Hp
  TL : List (Addr × Str)
/-- not a table of code objects -/
def NT (o : HO) : Prop := ∀ ps, o ≠ .tbl ps
def tapeKvs (c : Addr) (τ : Tp) : List (Key × V) :=
  [(.inr "cells", .ref c), (.inr "at", .int τ.at_), (.inr "left", .int τ.left), (.inr "seed", .int τ.seed), (.inr "salt", .int τ.salt)]
def TapeAt (T : Addr) (Hs H : Hp) (τ : Tp) : Prop := ∃ c, Hs c = some (.lst (τ.cells.map .int)) ∧ H T = some (.dK (tapeKvs c τ))
/-- nothing but a table stands at a -/
def Free (H : Hp) (a : Addr) : Prop := ∀ o, H a = some o → ¬ NT o
structure Core (c : Fc) (τ : Tp) (H Hs : Hp) : Prop where
  sub : Sub Hs H
  keep : ∀ a o, c.H0 a = some o → a ≠ c.T → NT o → H a = some o
  old : Sub c.Hs0 Hs
  new : ∀ a, Hs a ≠ none → c.Hs0 a ≠ none ∨ Free c.H0 a
  tape : TapeAt c.T Hs H τ
  nT : Hs c.T = none
  nt : ∀ a o, Hs a = some o → NT o
  tabs : LamX.Tabs c.TL H
/-- a list of one's own at a -/
structure OwnAt (c : Fc) (H Hs : Hp) (a : Addr) (xs : List D) : Prop where
  at_ : ∃ vs, H a = some (.lst vs) ∧ RpAll c.K Hs vs xs
  nHs : Hs a = none
  nH0 : Free c.H0 a
  nT : a ≠ c.T
def VaOk (c : Fc) (Hs : Hp) (v : V) : Va → Prop
  | .d x => Rp c.K Hs v x
  | .tp => v = .ref c.T
def SlOk (c : Fc) (H Hs : Hp) (v : Option (Option V)) : Sl → Prop
  | .sh x => ∃ u, v = some (some u) ∧ VaOk c Hs u x
  | .own xs => ∃ a, v = some (some (.ref a)) ∧ OwnAt c H Hs a xs
structure Stt (c : Fc) (env : Env) (pend : List (Addr × List D)) (τ : Tp) (σ : L2.St) (H Hs : Hp) : Prop where
  core : Core c τ H Hs
  len : env.length = σ.length
  slot : ∀ (i : Nat) (s : Sl), env[i]? = some (some s) → SlOk c H Hs (σ[i]?) s
  inj : ∀ (i j : Nat) (xs ys : List D) (a : Addr), env[i]? = some (some (.own xs)) → env[j]? = some (some (.own ys)) → σ[i]? = some (some (.ref a)) → σ[j]? = some (some (.ref a)) → i = j
  pnd : ∀ p ∈ pend, OwnAt c H Hs p.1 p.2
  pno : ∀ p ∈ pend, ∀ (i : Nat) (xs : List D), env[i]? = some (some (.own xs)) → σ[i]? ≠ some (some (.ref p.1))
  pdup : (pend.map (·.1)).Nodup
/-- a value, or a slot's -/
def RvB (c : Fc) (σ : L2.St) (Hs : Hp) (v : V) : Rv → Prop
  | .sh x => VaOk c Hs v x
  | .br i => σ[i]? = some (some v)
  | .fr _ => False
def Post (c : Fc) (env : Env) (pend : List (Addr × List D)) (τ : Tp) (σ : L2.St) (r : Rv) (v : V) (H Hs : Hp) : Prop := match r with
  | .fr xs => ∃ a, v = .ref a ∧ Stt c env ((a, xs) :: pend) τ σ H Hs
  | r => Stt c env pend τ σ H Hs ∧ RvB c σ Hs v r
/-- data as it is read: shared, or a list of one's own -/
def RpB (K : PySem.W.Frag) (H Hs : Hp) (v : V) (x : D) : Prop := Rp K Hs v x ∨ ∃ a vs xs, x = .list xs ∧ v = .ref a ∧ H a = some (.lst vs) ∧ RpAll K Hs vs xs
section
variable {c : Fc} {env : Env} {pend : List (Addr × List D)} {τ : Tp} {σ : L2.St} {H H' Hs Hs' : Hp} {v : V}
theorem VaOk.sub {x : Va} (h : VaOk c Hs v x) (e : Sub Hs Hs') : VaOk c Hs' v x := by
  cases x with
  | d x => exact Rp.sub h e
  | tp => exact h
theorem RvB.sub {r : Rv} (h : RvB c σ Hs v r) (e : Sub Hs Hs') : RvB c σ Hs' v r := by
  cases r with
  | sh x => exact VaOk.sub h e
  | br i => exact h
  | fr _ => exact h
theorem RpB.dp {K : PySem.W.Frag} {x : D} (h : RpB K H Hs v x) (e : Sub Hs H) : Rp K H v x := by
  rcases h with h | ⟨a, vs, xs, rfl, rfl, h1, h2⟩
  · exact h.sub e
  · exact .lst h1 (h2.sub e)
theorem OwnAt.grow {a : Addr} {xs : List D} (o : OwnAt c H Hs a xs) (e : Sub Hs Hs') (n : Hs' a = none) (k : H' a = H a) : OwnAt c H' Hs' a xs := by
  obtain ⟨vs, h1, h2⟩ := o.at_
  exact ⟨⟨vs, by rw [k]; exact h1, h2.sub e⟩, n, o.nH0, o.nT⟩
/-- a list of one's own becomes data -/
theorem Core.hand {a : Addr} {vs : List V} (C : Core c τ H Hs) (h1 : H a = some (.lst vs)) (n0 : Free c.H0 a) (nT : a ≠ c.T) : Core c τ H (upd Hs a (.lst vs)) := by
  have e : Sub Hs (upd Hs a (.lst vs)) := fun b o q => by
    by_cases h : b = a
    · have z := C.sub b o q
      rw [h, h1] at z
      rw [h, upd_same]
      exact z
    · rw [upd_ne h]
      exact q
  refine ⟨fun b o q => ?_, C.keep, C.old.trans e, fun b q => ?_, ?_, ?_, fun b o q => ?_, C.tabs⟩
  · by_cases h : b = a
    · rw [h, upd_same] at q
      rw [h, h1]
      exact q
    · rw [upd_ne h] at q
      exact C.sub b o q
  · by_cases h : b = a
    · rw [h]
      exact .inr n0
    · rw [upd_ne h] at q
      exact C.new b q
  · obtain ⟨x, t1, t2⟩ := C.tape
    exact ⟨x, e _ _ t1, t2⟩
  · rw [upd_ne (Ne.symm nT)]
    exact C.nT
  · by_cases h : b = a
    · rw [h, upd_same] at q
      cases q
      exact fun ps z => nomatch z
    · rw [upd_ne h] at q
      exact C.nt b o q
theorem sub_hand {a : Addr} {o : HO} (n : Hs a = none) : Sub Hs (upd Hs a o) := Sub.new n
theorem Stt.handPend {a : Addr} {xs : List D} (s : Stt c env ((a, xs) :: pend) τ σ H Hs) : ∃ Hs', Sub Hs Hs' ∧ Stt c env pend τ σ H Hs' ∧ Rp c.K Hs' (.ref a) (.list xs) := by
  have o := s.pnd _ List.mem_cons_self
  obtain ⟨vs, h1, h2⟩ := o.at_
  have e : Sub Hs (upd Hs a (.lst vs)) := Sub.new o.nHs
  have nd := s.pdup
  rw [List.map_cons, List.nodup_cons] at nd
  refine ⟨upd Hs a (.lst vs), e, ⟨s.core.hand h1 o.nH0 o.nT, s.len, fun i x hx => ?_, s.inj, fun p hp => ?_, fun p hp => s.pno p (List.mem_cons_of_mem _ hp), nd.2⟩, .lst upd_same (h2.sub e)⟩
  · have q := s.slot i x hx
    cases x with
    | sh x =>
      obtain ⟨u, q1, q2⟩ := q
      exact ⟨u, q1, q2.sub e⟩
    | own ys =>
      obtain ⟨b, q1, q2⟩ := q
      refine ⟨b, q1, q2.grow e ?_ rfl⟩
      rw [upd_ne (fun z => s.pno _ List.mem_cons_self i ys hx (by rw [q1, z]))]
      exact q2.nHs
  · refine (s.pnd p (List.mem_cons_of_mem _ hp)).grow e ?_ rfl
    rw [upd_ne (fun z => nd.1 (List.mem_map.mpr ⟨p, hp, z⟩))]
    exact (s.pnd p (List.mem_cons_of_mem _ hp)).nHs
theorem post_unfr {r : Rv} (p : Post c env pend τ σ r v H Hs) : ∃ Hs', Sub Hs Hs' ∧ Stt c env pend τ σ H Hs' ∧ RvB c σ Hs' v (unfr r) := by
  cases r with
  | sh x => exact ⟨Hs, Sub.refl _, p.1, p.2⟩
  | br i => exact ⟨Hs, Sub.refl _, p.1, p.2⟩
  | fr xs =>
    obtain ⟨a, rfl, s⟩ := p
    exact s.handPend
theorem look_ok {r : Rv} {x : D} (s : Stt c env pend τ σ H Hs) (b : RvB c σ Hs v r) (h : lookD env r = some x) : RpB c.K H Hs v x := by
  cases r with
  | sh y =>
    cases y with
    | d y =>
      have e : y = x := Option.some.inj h
      rw [← e]
      exact .inl b
    | tp => cases h
  | fr xs => exact b.elim
  | br i =>
    have b' : σ[i]? = some (some v) := b
    unfold lookD look at h
    dsimp only at h
    split at h
    · rename_i w hw
      split at hw
      · rename_i v' hv
        have q := s.slot i _ hv
        obtain ⟨u, q1, q2⟩ := q
        rw [b'] at q1
        cases q1
        cases hw
        cases h
        exact .inl q2
      · rename_i xs hv
        obtain ⟨a, q1, q2⟩ := s.slot i _ hv
        rw [b'] at q1
        cases q1
        cases hw
        cases h
        obtain ⟨vs, h1, h2⟩ := q2.at_
        exact .inr ⟨a, vs, xs, rfl, rfl, h1, h2⟩
      · cases hw
    · cases h
/-- a slot's list becomes data -/
theorem Stt.demote {i : Nat} {xs : List D} (s : Stt c env pend τ σ H Hs) (h : env[i]? = some (some (.own xs))) : ∃ Hs' a, Sub Hs Hs' ∧ σ[i]? = some (some (.ref a)) ∧ Stt c (env.set i (some (.sh (.d (.list xs))))) pend τ σ H Hs' ∧ Rp c.K Hs' (.ref a) (.list xs) := by
  obtain ⟨a, q1, o⟩ := s.slot i _ h
  obtain ⟨vs, h1, h2⟩ := o.at_
  have e : Sub Hs (upd Hs a (.lst vs)) := Sub.new o.nHs
  have il : i < env.length := (List.getElem?_eq_some_iff.mp h).1
  have dp : Rp c.K (upd Hs a (.lst vs)) (.ref a) (.list xs) := .lst upd_same (h2.sub e)
  have set_ne : ∀ j x, j ≠ i → (env.set i (some (.sh (.d (.list xs)))))[j]? = some (some x) → env[j]? = some (some x) := fun j x hj q => by
    rw [List.getElem?_set_ne (Ne.symm hj)] at q
    exact q
  have own_ne : ∀ j ys, (env.set i (some (.sh (.d (.list xs)))))[j]? = some (some (.own ys)) → j ≠ i ∧ env[j]? = some (some (.own ys)) := fun j ys q => by
    by_cases hj : j = i
    · rw [hj, List.getElem?_set_self il] at q
      cases q
    · exact ⟨hj, set_ne j _ hj q⟩
  refine ⟨_, a, e, q1, ⟨s.core.hand h1 o.nH0 o.nT, by rw [List.length_set]; exact s.len, fun j x hx => ?_, fun j k ys zs b a1 a2 a3 a4 => ?_, fun p hp => ?_, fun p hp j ys hj => ?_, s.pdup⟩, dp⟩
  · by_cases hj : j = i
    · rw [hj, List.getElem?_set_self il] at hx
      cases hx
      rw [hj]
      exact ⟨_, q1, dp⟩
    · have hx' := set_ne j x hj hx
      have q := s.slot j x hx'
      cases x with
      | sh x =>
        obtain ⟨u, z1, z2⟩ := q
        exact ⟨u, z1, z2.sub e⟩
      | own ys =>
        obtain ⟨b, z1, z2⟩ := q
        refine ⟨b, z1, z2.grow e ?_ rfl⟩
        rw [upd_ne (fun z => hj (s.inj j i ys xs a hx' h (by rw [z1, z]) q1))]
        exact z2.nHs
  · exact s.inj j k ys zs b (own_ne j ys a1).2 (own_ne k zs a2).2 a3 a4
  · refine (s.pnd p hp).grow e ?_ rfl
    rw [upd_ne (fun z => s.pno p hp i xs h (by rw [q1, z]))]
    exact (s.pnd p hp).nHs
  · exact s.pno p hp j ys (own_ne j ys hj).2
theorem share_ok {r : Rv} {w : Va} {env' : Env} (s : Stt c env pend τ σ H Hs) (b : RvB c σ Hs v r) (h : share env r = some (w, env')) : ∃ Hs', Sub Hs Hs' ∧ Stt c env' pend τ σ H Hs' ∧ VaOk c Hs' v w := by
  cases r with
  | sh y =>
    cases h
    exact ⟨Hs, Sub.refl _, s, b⟩
  | fr xs => exact b.elim
  | br i =>
    have b' : σ[i]? = some (some v) := b
    unfold share at h
    dsimp only at h
    split at h
    · rename_i v' hv
      cases h
      obtain ⟨u, q1, q2⟩ := s.slot i _ hv
      rw [b'] at q1
      cases q1
      exact ⟨Hs, Sub.refl _, s, q2⟩
    · rename_i xs hv
      cases h
      obtain ⟨Hs', a, e, q1, s', q2⟩ := s.demote hv
      rw [b'] at q1
      cases q1
      exact ⟨Hs', e, s', q2⟩
    · cases h
/-- a result, shared -/
theorem post_share {r : Rv} {w : Va} {env' : Env} (p : Post c env pend τ σ r v H Hs) (h : share env r = some (w, env')) : ∃ Hs', Sub Hs Hs' ∧ Stt c env' pend τ σ H Hs' ∧ VaOk c Hs' v w := by
  cases r with
  | fr xs =>
    cases h
    obtain ⟨a, rfl, s⟩ := p
    exact s.handPend
  | sh x => exact share_ok p.1 p.2 h
  | br i => exact share_ok p.1 p.2 h
end
end Dv

set_option Elab.async false
set_option linter.all false
set_option maxRecDepth 100000
set_option maxHeartbeats 2000000
/-! Dv3: operators and built-ins by values, where the layer's own rules ask more than the programs have. -/
namespace Dv
open PySem PySem.Spec PyProof.Rows L2
section
variable {X : Cx}
def CDiv9 (_ j : Int) : Prop := j ≠ 0 ∧ j.natAbs.log2 < 9000
theorem op_fdiv9 : OpR X (binaryOp .FloorDiv) (rI CDiv9 fun i j => .int (i.fdiv j)) := opI fun _ _ _ _ _ _ _ hc q => floordiv_int hc.1 q (.inl (PyProof.noPylong_of_log2 hc.2))
def CMulB (i j : Int) : Prop := Builtin.Int.intBits i + Builtin.Int.intBits j ≤ 134217728
theorem CMulB.ok {i j : Int} (h : CMulB i j) : IntMulOk i j := by
  have e : bitsLine = 134217728 := by decide
  have h' : Builtin.Int.intBits i + Builtin.Int.intBits j ≤ 134217728 := h
  unfold IntMulOk
  intro z
  rw [Bool.and_eq_true] at z
  have z2 := z.2
  unfold Builtin.Int.intTooBig at z2
  have z3 := of_decide_eq_true z2
  rw [e] at z3
  omega
theorem op_mulB : OpR X (binaryOp .Mult) (rI CMulB fun i j => .int (i * j)) := opI fun _ _ _ _ _ _ _ hc q => mul_int q hc.ok

/-! ### in, of tuples of data -/
def rInT (K : PySem.W.Frag) : R2 := fun x y H Q => ∃ d ds, Dp K H x d ∧ Dp K H y (.tuple ds) ∧ SeqAt.shaped d = true ∧ SeqAt.shaped (.tuple ds) = true ∧ Q (.bl (ds.any fun z => PyData.eqv z d)) H
def rNotInT (K : PySem.W.Frag) : R2 := fun x y H Q => ∃ d ds, Dp K H x d ∧ Dp K H y (.tuple ds) ∧ SeqAt.shaped d = true ∧ SeqAt.shaped (.tuple ds) = true ∧ Q (.bl (!ds.any fun z => PyData.eqv z d)) H
theorem room_in {A : Around} {d : PyData} {n : Nat} (h : SeqAt.shaped d = true) (hu : A.units + 65 < cLine) : A.units + 1 + min n d.depth < cLine := by
  have h1 := SeqAt.depth_of_shaped h
  have h2 := Nat.min_le_right n d.depth
  omega
theorem op_inT (hu : X.A.units + 65 < cLine) : OpR X (compareOp .In) (rInT X.K) := by
  intro pins s σ H x y v u Q I rx ry h
  obtain ⟨d, ds, hd, he, sd, se, q⟩ := h
  obtain ⟨as, r1⟩ := Dp.reads I d x v hd rx
  obtain ⟨bs, r2⟩ := Dp.reads I (.tuple ds) y u he ry
  exact SeqAt.in_tuple_reads r2 r1 (SeqAt.canLay_of_shaped se) (SeqAt.canLay_of_shaped sd) (room_in sd hu) ⟨.bl _, H, I, rfl, q⟩
theorem op_notInT (hu : X.A.units + 65 < cLine) : OpR X (compareOp .NotIn) (rNotInT X.K) := by
  intro pins s σ H x y v u Q I rx ry h
  obtain ⟨d, ds, hd, he, sd, se, q⟩ := h
  obtain ⟨as, r1⟩ := Dp.reads I d x v hd rx
  obtain ⟨bs, r2⟩ := Dp.reads I (.tuple ds) y u he ry
  exact SeqAt.notIn_tuple_reads r2 r1 (SeqAt.canLay_of_shaped se) (SeqAt.canLay_of_shaped sd) (room_in sd hu) ⟨.bl _, H, I, rfl, q⟩

/-! ### sum of a tuple of ints -/
def rSumT (K : PySem.W.Frag) : List V → Hp → VK → Prop := fun vs H Q => ∃ (a : Addr) (ns : List Int), vs = [V.ref a] ∧ SqT K H a (ns.map V.int) ∧ Q (.int ns.sum) H
theorem cr_sumT (hc : X.calm = true) : CallR X (.builtin "sum") (rSumT X.K) := by
  intro pins s σ H vs us Q I r h
  obtain ⟨a, ns, rfl, hs, q⟩ := h
  obtain ⟨its, rv, hl, _⟩ := I.tuple hs
  rw [Vals.ref1 r]
  have hi := rv.ints
  obtain ⟨xs, e⟩ := hi.allInts.items
  have hn : numsOf (intItems xs).toList = ns := by rw [← e]; exact hi.numsOf
  rw [nums_intItems] at hn
  have hl' : s.heap.IsTuple a (intItems xs) := by rw [← e]; exact hl
  refine PySem.W.ktm_sumG (I.ok.hd hc) hl' fun h' tk t' hk => ?_
  rw [preSum_eq, List.take_of_length_le (by simp), hn]
  exact ⟨.int _, H, I.kept hk, ⟨_, rfl⟩, q⟩

/-! ### max, min of ints -/
theorem readsAll_ints {h : Heap} : ∀ {ns : List Int} {us : List Value}, Vals (ns.map V.int) us → ReadsAll h us (ns.map PyData.int) []
  | [], _, r => by
    cases r
    exact .nil
  | n :: ns, _, r => by
    have r' : Vals (V.int n :: ns.map V.int) _ := r
    cases r' with
    | cons a b =>
      obtain ⟨t, rfl⟩ := a
      exact .cons (as := []) (bs := []) (.int n t) (readsAll_ints b)
theorem alike_int_all (ns : List Int) : PySem.W.AlikeAll (ns.map PyData.int) := by
  refine ⟨fun x hx y hy => ?_, fun x hx => ?_⟩
  · obtain ⟨a, _, rfl⟩ := List.mem_map.mp hx
    obtain ⟨b, _, rfl⟩ := List.mem_map.mp hy
    simp [PySem.W.alike]
  · obtain ⟨a, _, rfl⟩ := List.mem_map.mp hx
    intro z
    cases z
def rMaxA (K : PySem.W.Frag) : List V → Hp → VK → Prop := fun vs H Q => ∃ (a : Addr) (i : Int) (r : List Int), vs = [V.ref a] ∧ (SqL K H a ((i :: r).map V.int) ∨ SqT K H a ((i :: r).map V.int)) ∧ Q (.int (maxI i r)) H
def rMinA (K : PySem.W.Frag) : List V → Hp → VK → Prop := fun vs H Q => ∃ (a : Addr) (i : Int) (r : List Int), vs = [V.ref a] ∧ (SqL K H a ((i :: r).map V.int) ∨ SqT K H a ((i :: r).map V.int)) ∧ Q (.int (minI i r)) H
theorem reads_int {h : Heap} {v : Value} {n : Int} {bs : List Addr} (r : Reads h v (.int n) bs) : ∃ t, v = .int n t := by
  cases r with
  | int _ t => exact ⟨t, rfl⟩
theorem dep_ints {A : Around} (i : Int) (r : List Int) (hu : A.units + 65 < cLine) : A.units + 1 + PyData.depthAll (PyData.int i :: r.map PyData.int) < cLine := by
  rw [show PyData.int i :: r.map PyData.int = (i :: r).map PyData.int from rfl, PySem.W.depth_ints]
  omega
theorem cr_maxA (hc : X.calm = true) (hu : X.A.units + 65 < cLine) : CallR X (.builtin "max") (rMaxA X.K) := by
  intro pins s σ H vs us Q I r h
  obtain ⟨a, i, ns, rfl, hs, q⟩ := h
  rw [Vals.ref1 r]
  rcases hs with hs | hs
  · obtain ⟨its, rv, hl, _⟩ := I.list hs
    refine PySem.W.max_list_data (vs := its.toArray) (x := .int i) (xs := ns.map .int) (as := []) (I.ok.hd hc) hl.isList (by simpa using readsAll_ints (ns := i :: ns) rv) (alike_int_all (i :: ns)) (dep_ints i ns hu) fun j v h' tk bs _ hr hk => ?_
    rw [PySem.W.maxD_ints] at hr
    obtain ⟨t, rfl⟩ := reads_int hr
    exact ⟨.int _, H, I.kept hk, ⟨_, rfl⟩, q⟩
  · obtain ⟨its, rv, hl, _⟩ := I.tuple hs
    refine PySem.W.max_tuple_data (vs := its.toArray) (x := .int i) (xs := ns.map .int) (as := []) (I.ok.hd hc) hl (by simpa using readsAll_ints (ns := i :: ns) rv) (alike_int_all (i :: ns)) (dep_ints i ns hu) fun j v h' tk bs _ hr hk => ?_
    rw [PySem.W.maxD_ints] at hr
    obtain ⟨t, rfl⟩ := reads_int hr
    exact ⟨.int _, H, I.kept hk, ⟨_, rfl⟩, q⟩
theorem cr_minA (hc : X.calm = true) (hu : X.A.units + 65 < cLine) : CallR X (.builtin "min") (rMinA X.K) := by
  intro pins s σ H vs us Q I r h
  obtain ⟨a, i, ns, rfl, hs, q⟩ := h
  rw [Vals.ref1 r]
  rcases hs with hs | hs
  · obtain ⟨its, rv, hl, _⟩ := I.list hs
    refine PySem.W.min_list_data (vs := its.toArray) (x := .int i) (xs := ns.map .int) (as := []) (I.ok.hd hc) hl.isList (by simpa using readsAll_ints (ns := i :: ns) rv) (alike_int_all (i :: ns)) (dep_ints i ns hu) fun j v h' tk bs _ hr hk => ?_
    rw [PySem.W.minD_ints] at hr
    obtain ⟨t, rfl⟩ := reads_int hr
    exact ⟨.int _, H, I.kept hk, ⟨_, rfl⟩, q⟩
  · obtain ⟨its, rv, hl, _⟩ := I.tuple hs
    refine PySem.W.min_tuple_data (vs := its.toArray) (x := .int i) (xs := ns.map .int) (as := []) (I.ok.hd hc) hl (by simpa using readsAll_ints (ns := i :: ns) rv) (alike_int_all (i :: ns)) (dep_ints i ns hu) fun j v h' tk bs _ hr hk => ?_
    rw [PySem.W.minD_ints] at hr
    obtain ⟨t, rfl⟩ := reads_int hr
    exact ⟨.int _, H, I.kept hk, ⟨_, rfl⟩, q⟩
end
/-! ### tuple * int -/
theorem tuple_mulS (l : Addr) (items : Array Value) (n : Nat) (dd : Option Addr) (sl : Array (Option Value)) (x : Int) (u : Tok) (c0 : (decide (x < -(2 ^ 63)) || decide (x ≥ 2 ^ 63)) = false) (c1 : (items.isEmpty || x == 1) = true) :
    Meets (Builtin.«tuple.__mul__» ⟨[.ref l, .int x u], []⟩) (fun _ R s => s.heap.get? l = some { cls := .type "tuple", dict := dd, data := .seq items n, slots := sl } ∧
      R (.ok (.ret (Value.ref l))) s) :=
  .of_wp fun prog w A R s h => by
    obtain ⟨hp, g, d, tk, os⟩ := s
    obtain ⟨hl, h⟩ := h
    have f1 := AutoSeq1.idx_int
    wp_walk using wpAny_loadPart' hl
    repeat (first
      | (refine wpAny_ite_false (decide_eq_false (by rw [c0]; exact Bool.false_ne_true)) ?_; wp_walk using wpAny_loadPart' hl)
      | (refine wpAny_ite_true (decide_eq_true (by rw [c1])) ?_; wp_walk using wpAny_loadPart' hl))
    exact ⟨_, rfl, h⟩
theorem tuple_mul0 (l : Addr) (items : Array Value) (n : Nat) (dd : Option Addr) (sl : Array (Option Value)) (x : Int) (u : Tok) (c0 : (decide (x < -(2 ^ 63)) || decide (x ≥ 2 ^ 63)) = false) (c1 : (items.isEmpty || x == 1) = false) (c2 : (decide (x ≤ 0) || items.isEmpty) = true) :
    Meets (Builtin.«tuple.__mul__» ⟨[.ref l, .int x u], []⟩) (fun _ R s => s.heap.get? l = some { cls := .type "tuple", dict := dd, data := .seq items n, slots := sl } ∧
      R (.ok (.ret (Value.ref s.heap.objs.size))) { s with heap := s.heap.push { cls := Value.type "tuple", data := Data.seq #[] }, toks := s.toks }) :=
  .of_wp fun prog w A R s h => by
    obtain ⟨hp, g, d, tk, os⟩ := s
    obtain ⟨hl, h⟩ := h
    have f1 := AutoSeq1.idx_int
    wp_walk using wpAny_loadPart' hl
    repeat (first
      | (refine wpAny_ite_false (decide_eq_false (by rw [c0]; exact Bool.false_ne_true)) ?_; wp_walk using wpAny_loadPart' hl)
      | (refine wpAny_ite_false (decide_eq_false (by rw [c1]; exact Bool.false_ne_true)) ?_; wp_walk using wpAny_loadPart' hl)
      | (refine wpAny_ite_true (decide_eq_true (by rw [c2])) ?_; wp_walk using wpAny_loadPart' hl))
    exact ⟨_, rfl, h⟩

section
variable {X : Cx}
def rRepA (K : PySem.W.Frag) : R2 := fun x y H Q => ∃ l k xs, x = .ref l ∧ y = .int k ∧ SqT K H l xs ∧ 0 ≤ k ∧ k ≤ 1000 ∧ xs.length ≤ 1000 ∧
  ((xs = [] ∨ k = 1) → Q (.ref l) H) ∧ (¬ (xs = [] ∨ k = 1) → ∀ p, H p = none → Q (.ref p) (upd H p (.tup (List.replicate k.toNat xs).flatten)))
theorem op_repA : OpR X (binaryOp .Mult) (rRepA X.K) := by
  intro pins s σ H x y v u Q I rx ry h
  obtain ⟨l, k, xs, rfl, rfl, hT, h0, h1, hz, q1, q2⟩ := h
  by_cases hs : xs = [] ∨ k = 1
  · have q := q1 hs
    cases rx
    obtain ⟨t, rfl⟩ := ry
    obtain ⟨its, r, ⟨⟨cls, dd, data, sl⟩, ho, hc, n, hd⟩, hs'⟩ := I.tuple hT
    simp only at hc hd
    subst hc hd
    have c0 : (decide (k < -(2 ^ 63)) || decide (k ≥ 2 ^ 63)) = false := by
      rw [decide_eq_false (by omega), decide_eq_false (by omega)] <;> rfl
    have c1 : (its.toArray.isEmpty || k == 1) = true := by
      rcases hs with e | e
      · rw [e] at r
        cases r
        rfl
      · rw [e]
        simp
    exact wpAny_binaryOp_repeat_ref (T := "tuple") (U := "int") (by decide) ⟨_, ho, rfl⟩ (fun s' => typeIs_int s' k t) noFill_tuple_mul F.fills_int_mul F.slot_int_rmul repeat_tuple F.slot_int_index.lookup
      (call_meets F.slot_int_rmul (typeIs_int s k t) F.entry_int_rmul (F.args_int_rmul_2 _ _) (int_rmul_tuple k t l its.toArray n dd sl)
        ⟨ho, rfl, ⟨_, ho, rfl⟩, call_meets F.slot_tuple_mul ⟨_, ho, rfl⟩ F.entry_tuple_mul (F.args_tuple_mul_2 _ _) (tuple_mulS l its.toArray n dd sl k t c0 c1) ⟨ho, ⟨.ref l, H, I, rfl, q⟩⟩⟩)
  · have q := q2 hs
    have hne : xs ≠ [] := fun e => hs (.inl e)
    have hk1 : k ≠ 1 := fun e => hs (.inr e)
    by_cases h2 : 2 ≤ k
    · exact op_repT pins s σ H _ _ v u Q I rx ry ⟨l, k, xs, rfl, rfl, hT, hne, h2, h1, hz, q⟩
    · have hk : k = 0 := by omega
      subst hk
      cases rx
      obtain ⟨t, rfl⟩ := ry
      obtain ⟨its, r, ⟨⟨cls, dd, data, sl⟩, ho, hc, n, hd⟩, hs'⟩ := I.tuple hT
      simp only at hc hd
      subst hc hd
      have hle := r.length
      have hi : its.toArray.isEmpty = false := by
        cases its with
        | nil =>
          cases r
          exact absurd rfl hne
        | cons a b => rfl
      have hf : H s.heap.objs.size = none := I.hok.fresh (Nat.le_refl _)
      refine wpAny_binaryOp_repeat_ref (T := "tuple") (U := "int") (by decide) ⟨_, ho, rfl⟩ (fun s' => typeIs_int s' 0 t) noFill_tuple_mul F.fills_int_mul F.slot_int_rmul repeat_tuple F.slot_int_index.lookup
        (call_meets F.slot_int_rmul (typeIs_int s 0 t) F.entry_int_rmul (F.args_int_rmul_2 _ _) (int_rmul_tuple 0 t l its.toArray n dd sl)
          ⟨ho, rfl, ⟨_, ho, rfl⟩, call_meets F.slot_tuple_mul ⟨_, ho, rfl⟩ F.entry_tuple_mul (F.args_tuple_mul_2 _ _) (tuple_mul0 l its.toArray n dd sl 0 t (by decide) (by rw [hi]; decide) (by simp)) ⟨ho, ?_⟩⟩)
      refine ⟨.ref s.heap.objs.size, upd H s.heap.objs.size (.tup []), I.laid (t' := s.toks) (fun b u e => Heap.get?_push_of_some _ e) (Nat.le_refl _) ?_, rfl, q _ hf⟩
      exact ⟨Nat.zero_le _, [], .nil, ⟨_, Heap.get?_push_size _ rfl, rfl, _, rfl⟩⟩
end
end Dv

set_option Elab.async false
set_option linter.all false
set_option maxRecDepth 100000
set_option maxHeartbeats 4000000
/-! Dv4: zip and enumerate over lists and tuples in any mix. -/
namespace Dv
open PySem PySem.Spec PyProof.Rows L2
/-- a list (false) or a tuple (true) -/
def SqA (k : Bool) (K : PySem.W.Frag) (H : Hp) (a : Addr) (xs : List V) : Prop := match k with
  | false => SqL K H a xs
  | true => SqT K H a xs
def IterA (k : Bool) (h : Heap) (it a : Addr) (i : Nat) : Prop := match k with
  | false => h.IsListIter it a i
  | true => h.IsTupleIter it a i
def HoldA (k : Bool) (h : Heap) (a : Addr) (items : Array Value) : Prop := match k with
  | false => h.IsList a items
  | true => h.IsTuple a items
def iterO (k : Bool) (a : Addr) : Obj := match k with
  | false => { cls := .type "list_iterator", data := .fields #[.ref a, .int 0 0] }
  | true => { cls := .type "tuple_iterator", data := .fields #[.ref a, .int 0 0] }
theorem drawsA (k : Bool) {prog : Program} {w : World} {A : Around} (hh : A.handled = none) (it a : Addr) (hne : a ≠ it) (items : Array Value) :
    Draws prog w A it [it, a] items.size (fun i v => items[i]? = some v) (fun i h => IterA k h it a i ∧ HoldA k h a items) := by
  cases k with
  | false => exact Draws.list hh it a hne items
  | true => exact Draws.tuple hh it a hne items
theorem beginsA (k : Bool) (a : Addr) (items : Array Value) : Begins (.ref a) (iterO k a) (fun h => HoldA k h a items) := by
  cases k with
  | false => exact begins_list a items
  | true => exact begins_tuple a items
theorem iterA_at {k : Bool} {h h' : Heap} {it a : Addr} {i : Nat} (x : IterA k h it a i) (e : ∀ o, h.get? it = some o → h'.get? it = some o) : IterA k h' it a i := by
  cases k with
  | false => exact Heap.IsListIter.at x e
  | true => exact Heap.IsTupleIter.at x e
theorem iterA_new {k : Bool} {h : Heap} {it a : Addr} (e : h.get? it = some (iterO k a)) : IterA k h it a 0 := by
  cases k with
  | false => exact ⟨_, e, rfl, rfl⟩
  | true => exact ⟨_, e, rfl, rfl⟩
theorem iterA_obj {k : Bool} {h : Heap} {it a : Addr} {i : Nat} (x : IterA k h it a i) : ∃ o, h.get? it = some o ∧ ∀ v, o.data ≠ .cell v := by
  cases k with
  | false =>
    obtain ⟨o, e, c, d⟩ := x
    exact ⟨o, e, fun v z => by rw [d] at z; cases z⟩
  | true =>
    obtain ⟨o, e, c, d⟩ := x
    exact ⟨o, e, fun v z => by rw [d] at z; cases z⟩
theorem SqA.sub {k : Bool} {K : PySem.W.Frag} {H H' : Hp} {a : Addr} {xs : List V} (h : SqA k K H a xs) (e : Sub H H') : SqA k K H' a xs := by
  cases k with
  | false => exact sub_l e h
  | true => exact sub_t e h
section
variable {X : Cx} {pins : List (Addr × Obj)} {σ : L2.St} {H : Hp} {s : Shared} {k : Bool} {a : Addr} {xs ys : List V}
theorem seqA (I : Inv X pins σ H s) (h : SqA k X.K H a xs) : ∃ its : List Value, Vals xs its ∧ HoldA k s.heap a its.toArray ∧ a < s.heap.objs.size := by
  cases k with
  | false =>
    obtain ⟨its, r, p, _⟩ := I.list h
    exact ⟨its, r, p.isList, p.lt⟩
  | true =>
    obtain ⟨its, r, p, _⟩ := I.tuple h
    obtain ⟨o, e, _⟩ := id p
    exact ⟨its, r, p, Heap.lt_size e⟩
theorem seqA_inj (I : Inv X pins σ H s) (h : SqA k X.K H a xs) (h' : SqA k X.K H a ys) : xs = ys := by
  cases k with
  | false => exact I.list_inj h h'
  | true => exact I.tuple_inj h h'
end
/-- zip -/
def ItzA (K : PySem.W.Frag) (k1 k2 : Bool) (a b : Addr) : It :=
  ⟨fun i H => ∃ (xs ys : List V) (x y : V), SqA k1 K H a xs ∧ SqA k2 K H b ys ∧ xs[i]? = some x ∧ ys[i]? = some y,
    fun i H v H' => ∃ T x y, v = .ref T ∧ H T = none ∧ H' = upd H T (.tup [x, y]) ∧ (∀ xs, SqA k1 K H a xs → xs[i]? = some x) ∧ ∀ ys, SqA k2 K H b ys → ys[i]? = some y,
    fun i H => ∃ xs ys : List V, SqA k1 K H a xs ∧ SqA k2 K H b ys ∧ i = min xs.length ys.length⟩
theorem turn_zipAny {P : Program} {w : World} {K : PySem.W.Frag} {elts : List Expr} {kk : Nat} {tpos : Pos} (k1 k2 : Bool) {a b z TI TO i1 i2 : Addr} (D : ZipSep2 z TI TO i1 i2 [i1, a] [i2, b]) (ha : a ≠ i1) (hb : b ≠ i2) :
    Turn P w K (.Tuple elts kk tpos) (ItzA K k1 k2 a b) [z, TI, TO, i1, i2] z (fun i h => IsZip h z TI TO .none ∧ IsTupOf2 h TI (.ref i1) (.ref i2) ∧ (∃ x y, IsTupOf2 h TO x y) ∧ IterA k1 h i1 a i ∧ IterA k2 h i2 b i) where
  mem := by simp
  obj := fun i h st c hc => by
    obtain ⟨hz, hTI, ⟨x, y, hTO⟩, h1, h2⟩ := st
    have e' : c = z ∨ c = TI ∨ c = TO ∨ c = i1 ∨ c = i2 := by simpa using hc
    rcases e' with q | q | q | q | q
    · rw [q]; exact ⟨_, hz, fun v q => nomatch q⟩
    · rw [q]; exact ⟨_, hTI, fun v q => nomatch q⟩
    · rw [q]; exact ⟨_, hTO, fun v q => nomatch q⟩
    · rw [q]; exact iterA_obj h1
    · rw [q]; exact iterA_obj h2
  keep := fun i h h' st k => by
    obtain ⟨hz, hTI, ⟨x, y, hTO⟩, h1, h2⟩ := st
    exact ⟨k z (by simp) _ hz, k TI (by simp) _ hTI, ⟨x, y, k TO (by simp) _ hTO⟩, iterA_at h1 fun o q => k i1 (by simp) o q, iterA_at h2 fun o q => k i2 (by simp) o q⟩
  item := by
    intro X hP hw hK hc i pins s σ H E I hf st hg
    subst hP hw hK
    obtain ⟨hz, hTI, hTO, h1, h2⟩ := st
    obtain ⟨xs, ys, x, y, hqx, hqy, hx, hy⟩ := hg
    obtain ⟨its, rv, p, _⟩ := seqA I hqx
    obtain ⟨its2, rv2, p2, _⟩ := seqA I hqy
    obtain ⟨u, hu, ru⟩ := rv.get hx
    obtain ⟨u2, hu2, ru2⟩ := rv2.get hy
    have hh : X.A.in1.handled = none := I.ok.hd hc
    have W := GoesN.zip2 (prog := X.prog) (w := X.w) (A := X.A) (elts := elts) (x1 := kk) (pos := tpos) D (drawsA k1 hh i1 a ha its.toArray) (drawsA k2 hh i2 b hb its2.toArray)
    have l1 := (List.getElem?_eq_some_iff.mp hu).1
    have l2 := (List.getElem?_eq_some_iff.mp hu2).1
    refine wpAny_mono (W.goes i s (fun v s2 => ∃ x H', Inv X pins σ H' s2 ∧ RelV x v ∧ (ItzA X.K k1 k2 a b).yld i H x H' ∧ (IsZip s2.heap z TI TO .none ∧ IsTupOf2 s2.heap TI (.ref i1) (.ref i2) ∧ (∃ x y, IsTupOf2 s2.heap TO x y) ∧ IterA k1 s2.heap i1 a (i + 1) ∧ IterA k2 s2.heap i2 b (i + 1)) ∧ ∀ b ∈ [z, TI, TO, i1, i2], H' b = none) E (by rw [List.size_toArray, List.size_toArray]; omega) ⟨hz, hTI, hTO, ⟨h1, p⟩, ⟨h2, p2⟩⟩ fun v h' tk hY st' hk htk => ?_) (fun r s1 hr => ?_) fun _ _ e => e
    · obtain ⟨T, v1, v2, rfl, hn, e1, e2, hT⟩ := hY
      obtain ⟨hz', hTI', hTO', ⟨h1', _⟩, ⟨h2', _⟩⟩ := st'
      have e1' : v1 = u := by
        have q : its[i]? = some v1 := by simpa using e1
        rw [hu] at q
        exact (Option.some.inj q).symm
      have e2' : v2 = u2 := by
        have q : its2[i]? = some v2 := by simpa using e2
        rw [hu2] at q
        exact (Option.some.inj q).symm
      subst e1' e2'
      obtain ⟨oT, hoT, hcT, nT, hdT⟩ := hT
      have hlt : ∀ c ∈ [z, TI, TO, i1, i2], c < s.heap.objs.size := fun c hcm => by
        have e' : c = z ∨ c = TI ∨ c = TO ∨ c = i1 ∨ c = i2 := by simpa using hcm
        obtain ⟨x0, y0, hTO0⟩ := hTO
        rcases e' with q | q | q | q | q
        · rw [q]; exact Heap.lt_size hz
        · rw [q]; exact Heap.lt_size hTI
        · rw [q]; exact Heap.lt_size hTO0
        · rw [q]; obtain ⟨o, e, _⟩ := iterA_obj h1; exact Heap.lt_size e
        · rw [q]; obtain ⟨o, e, _⟩ := iterA_obj h2; exact Heap.lt_size e
      have new : ObjOk X.prog X.w (upd H T (.tup [x, y])) h' T (.tup [x, y]) :=
        ⟨by show 2 ≤ sizeLine; decide, [v1, v2], .cons ru (.cons ru2 .nil), ⟨oT, hoT, hcT, nT, hdT⟩⟩
      have I1 : Inv X pins σ (upd H T (.tup [x, y])) { s with heap := h', toks := tk } :=
        I.turnedNew (t' := tk) (ch := [z, TI, TO, i1, i2]) (fun c o hb q => hk c o (fun hm => hb (by
          have e' : c = z ∨ c = TO ∨ c = i1 ∨ c = i2 := by simpa using hm
          rcases e' with q | q | q | q <;> simp [q])) q) hf hn new
      refine ⟨.ref T, _, I1, rfl, ⟨T, x, y, rfl, I.hok.fresh hn, rfl, fun l hl => by rw [seqA_inj I hl hqx]; exact hx, fun l hl => by rw [seqA_inj I hl hqy]; exact hy⟩, ⟨hz', hTI', hTO', h1', h2'⟩, fun c hcm => ?_⟩
      rw [upd_ne (Nat.ne_of_lt (Nat.lt_of_lt_of_le (hlt c hcm) hn))]
      exact (hf c hcm).1
    · obtain ⟨v, rfl, hr⟩ := hr
      exact ⟨v, rfl, hr⟩
  done := by
    intro X hP hw hK hc i pins s σ H E I hf st hg
    subst hP hw hK
    obtain ⟨hz, hTI, hTO, h1, h2⟩ := st
    obtain ⟨xs, ys, hqx, hqy, hend⟩ := hg
    obtain ⟨its, rv, p, _⟩ := seqA I hqx
    obtain ⟨its2, rv2, p2, _⟩ := seqA I hqy
    have l1 := rv.length
    have l2 := rv2.length
    have hh : X.A.in1.handled = none := I.ok.hd hc
    have W := GoesN.zip2 (prog := X.prog) (w := X.w) (A := X.A) (elts := elts) (x1 := kk) (pos := tpos) D (drawsA k1 hh i1 a ha its.toArray) (drawsA k2 hh i2 b hb its2.toArray)
    have en : i = min its.toArray.size its2.toArray.size := by rw [List.size_toArray, List.size_toArray, hend]; omega
    subst en
    exact W.stops s (fun s1 => Inv X pins σ H s1) E ⟨hz, hTI, hTO, ⟨h1, p⟩, ⟨h2, p2⟩⟩ fun h' tk hk htk => I.turnedL (t' := tk) (ch := [z, TI, TO, i1, i2]) (fun c o hb q => hk c o (fun hm => hb (by
          have e' : c = z ∨ c = TO ∨ c = i1 ∨ c = i2 := by simpa using hm
          rcases e' with q | q | q | q <;> simp [q])) q) hf
  self := fun A i s Q E st h => wpAny_pyIter_zip st.1 h
def iZipAny (K : PySem.W.Frag) (ta : TA) : TI := fun σ H R => ta σ H fun vs H1 => ∃ a b k1 k2 xs ys, vs = [.ref a, .ref b] ∧ SqA k1 K H1 a xs ∧ SqA k2 K H1 b ys ∧ R (ItzA K k1 k2 a b) H1
theorem pi_zipAny {X : Cx} {e e2 : Expr} {ta : TA} {p pos tpos : Pos} {elts : List Expr} {kk : Nat} (hg : Gl X "zip") (hm : X.mg "zip" = none) (ha : PA X [e, e2] ta)
    (hs : starEach [e, e2] X.env = (false, eval e X.env) :: starEach [e2] X.env := by rfl) (hpl : (backTo pos (starEach [e2] X.env)).any (·.1) = false := by rfl) :
    PI X (.Tuple elts kk tpos) (.Call (.Name "zip" p) [e, e2] [] pos) (iZipAny X.K ta) := by
  refine ⟨fun pins s σ H R I h => ?_⟩
  refine Call_ (ld_blt I hg hm PyProof.Rows.boot_zip (PyProof.Rows.callWith_type1 (thn (ha.run pos pins s σ H _ I h) fun us s1 ⟨vs, H1, I1, r1, q1⟩ => ?_) hs hpl))
  obtain ⟨a, b, k1, k2, xs, ys, ex, hqx, hqy, q⟩ := q1
  subst ex
  cases r1 with
  | cons r rr =>
    cases rr with
    | cons r' rr =>
      cases rr
      cases r
      cases r'
      obtain ⟨its, rv, p1, la⟩ := seqA I1 hqx
      obtain ⟨its2, rv2, p2, lb⟩ := seqA I1 hqy
      refine zip_begins2 (beginsA k1 a its.toArray) (beginsA k2 b its2.toArray) p1 p2 fun h' hz hTI hTO h1 h2 hsz hk => wpAny_pyIter_zip hz ?_
      have I2 : Inv X pins σ H1 { s1 with heap := h' } := I1.kept (t' := s1.toks) hk
      refine ⟨s1.heap.objs.size + 4, [s1.heap.objs.size + 4, s1.heap.objs.size + 2, s1.heap.objs.size + 3, s1.heap.objs.size, s1.heap.objs.size + 1], _, _, H1, rfl, I2,
        turn_zipAny k1 k2 (zip_sep2 (N := s1.heap.objs.size) (fp1 := [a]) (fp2 := [b]) (fun c hc => by rw [List.mem_singleton.mp hc]; exact la) (fun c hc => by rw [List.mem_singleton.mp hc]; exact lb)) (Nat.ne_of_lt la) (Nat.ne_of_lt (Nat.lt_of_lt_of_le lb (Nat.le_succ _))),
        ⟨hz, hTI, ⟨_, _, hTO⟩, iterA_new h1, iterA_new h2⟩, fun c hcm => ?_, q⟩
      have e' : c = s1.heap.objs.size + 4 ∨ c = s1.heap.objs.size + 2 ∨ c = s1.heap.objs.size + 3 ∨ c = s1.heap.objs.size ∨ c = s1.heap.objs.size + 1 := by simpa using hcm
      have hle : s1.heap.objs.size ≤ c := by
        rcases e' with z | z | z | z | z
        · rw [z]; exact Nat.le_add_right _ _
        · rw [z]; exact Nat.le_add_right _ _
        · rw [z]; exact Nat.le_add_right _ _
        · rw [z]; exact Nat.le_refl _
        · rw [z]; exact Nat.le_add_right _ _
      exact I1.fpOk hle (I1.hok.fresh hle)
theorem walk_zipAny {K : PySem.W.Frag} {k1 k2 : Bool} {a b : Addr} {xs ys : List V} {n : Nat} (hn : n = min xs.length ys.length) :
    Walk (ItzA K k1 k2 a b) n (fun H => SqA k1 K H a xs ∧ SqA k2 K H b ys) (YPair (fun i => xs[i]?) (fun i => ys[i]?)) := by
  subst hn
  refine ⟨fun i _ hi q => ?_, fun _ q => ⟨xs, ys, q.1, q.2, rfl⟩, fun i H v H' _ q y => ?_⟩
  · have h1 : i < xs.length := by omega
    have h2 : i < ys.length := by omega
    exact ⟨xs, ys, xs[i], ys[i], q.1, q.2, by simp [h1], by simp [h2]⟩
  · obtain ⟨T, x, z, h1, h2, h3, h4, h5⟩ := y
    exact ⟨T, x, z, h1, h2, h3, h4 xs q.1, h5 ys q.2⟩

/-! ### enumerate -/
set_option maxHeartbeats 4000000 in
theorem meets_enumerate_newA {v : Value} {o : Obj} {H : Heap → Prop} (B : Begins v o H) :
    Meets (Builtin.«enumerate.__new__» ⟨[.type "enumerate", v], []⟩) (fun _ R s => H s.heap ∧
      R (.ok (.ret (.ref (s.heap.push o).objs.size))) { s with heap := (s.heap.push o).push { cls := .type "enumerate", data := .fields #[.none, .bool false, .ref s.heap.objs.size, rawInt 0, .none, .none] } }) :=
  .of_wp fun prog w A R s h => by
    obtain ⟨hp, g, d, tk, os⟩ := s
    obtain ⟨h1, h⟩ := h
    have hsub := sub_enumerate
    have hI : ∀ (A : Around) (E : Value → Shared → Prop) (Q : Value → Shared → Prop), Q (.ref hp.objs.size) ⟨hp.push o, g, d, tk, os⟩ → wpAny (model prog w) A (pyIter v) Q E ⟨hp, g, d, tk, os⟩ := fun A E Q hq => B.iter prog w A E ⟨hp, g, d, tk, os⟩ Q h1 hq
    wp_walk
    refine wpAny_stack_any fun st => wpAny_pure ?_
    split
    · rename_i c _ _ _ _ _
      cases (c == Value.type "enumerate")
      · wp_walk using hI
        exact ⟨_, rfl, h⟩
      · wp_walk using hI
        exact ⟨_, rfl, h⟩
    · wp_walk using hI
      exact ⟨_, rfl, h⟩
theorem call_enumerateA {prog : Program} {w : World} {A : Around} {E : Value → Shared → Prop} {s : Shared} {v : Value} {o : Obj} {H : Heap → Prop} {Q : Value → Shared → Prop} (B : Begins v o H) (h1 : H s.heap)
    (h : ∀ h', IsEnum h' (s.heap.objs.size + 1) s.heap.objs.size 0 .none → h'.get? s.heap.objs.size = some o → (∀ b o, s.heap.get? b = some o → h'.get? b = some o) → Q (.ref (s.heap.objs.size + 1)) { s with heap := h' }) :
    wpAny (model prog w) A (call (.type "enumerate") [v]) Q E s := by
  refine callType_new F.called_enumerate (by decide) (F.typeCall_enumerate_1 _) (F.newCall_enumerate_1 _) (fun obj => F.args_object_init_2 obj _) F.entry_enumerate_new
    (meets_enumerate_newA B) ⟨h1, ?_⟩
  have hz : (s.heap.push o).objs.size = s.heap.objs.size + 1 := Heap.size_push ..
  show _ ∧ _
  rw [hz]
  have he : IsEnum ((s.heap.push o).push
      { cls := .type "enumerate", data := .fields #[.none, .bool false, .ref s.heap.objs.size, rawInt 0, .none, .none] }) (s.heap.objs.size + 1) s.heap.objs.size 0 .none := by
    have := Heap.get?_push_size (s.heap.push o)
      (o := { cls := .type "enumerate", data := .fields #[.none, .bool false, .ref s.heap.objs.size, rawInt 0, .none, .none] }) rfl
    rw [hz] at this; exact this
  exact ⟨⟨_, he, rfl⟩, h _ he (Heap.get?_push_of_some _ (Heap.get?_push_size _ B.free)) fun b o x => Heap.get?_push_of_some _ (Heap.get?_push_of_some _ x)⟩
def IteA (K : PySem.W.Frag) (k : Bool) (a : Addr) : It :=
  ⟨fun i H => ∃ (xs : List V) (x : V), SqA k K H a xs ∧ xs[i]? = some x, fun i H v H' => ∃ T x, v = .ref T ∧ H T = none ∧ H' = upd H T (.tup [.int (i : Nat), x]) ∧ ∀ xs, SqA k K H a xs → xs[i]? = some x, fun i H => ∃ xs : List V, SqA k K H a xs ∧ xs.length = i⟩
theorem turn_enumA {P : Program} {w : World} {K : PySem.W.Frag} {elts : List Expr} {kk : Nat} {tpos : Pos} (k : Bool) {a e it : Addr} (hei : e ≠ it) (hea : e ≠ a) (hai : a ≠ it) :
    Turn P w K (.Tuple elts kk tpos) (IteA K k a) [e, it] e (fun i h => (∃ old, IsEnum h e it (0 + (i : Int)) old) ∧ IterA k h it a i) where
  mem := by simp
  obj := fun i h st b hb => by
    obtain ⟨⟨old, he⟩, h1⟩ := st
    have e' : b = e ∨ b = it := by simpa using hb
    rcases e' with z | z
    · rw [z]; exact ⟨_, he, fun v q => nomatch q⟩
    · rw [z]; exact iterA_obj h1
  keep := fun i h h' st k' => by
    obtain ⟨⟨old, he⟩, h1⟩ := st
    exact ⟨⟨old, k' e (by simp) _ he⟩, iterA_at h1 fun o q => k' it (by simp) o q⟩
  item := by
    intro X hP hw hK hc i pins s σ H E I hf st hg
    subst hP hw hK
    obtain ⟨he, h1⟩ := st
    obtain ⟨xs, x, hq, hx⟩ := hg
    obtain ⟨its, rv, p, _⟩ := seqA I hq
    obtain ⟨u, hu, ru⟩ := rv.get hx
    have hh : X.A.in1.handled = none := I.ok.hd hc
    have W := GoesN.enumFrom (prog := X.prog) (w := X.w) (A := X.A) (elts := elts) (x1 := kk) (pos := tpos) 0 (drawsA k hh it a hai its.toArray) e hei (by simp [hei, hea]) (by simp)
    have l1 := (List.getElem?_eq_some_iff.mp hu).1
    have hlt : ∀ c ∈ [e, it], c < s.heap.objs.size := fun c hcm => by
      have e' : c = e ∨ c = it := by simpa using hcm
      obtain ⟨old, he0⟩ := he
      rcases e' with q | q
      · rw [q]; exact Heap.lt_size he0
      · rw [q]; obtain ⟨o, e, _⟩ := iterA_obj h1; exact Heap.lt_size e
    refine wpAny_mono (W.goes i s (fun v s2 => ∃ x H', Inv X pins σ H' s2 ∧ RelV x v ∧ (IteA X.K k a).yld i H x H' ∧ ((∃ old, IsEnum s2.heap e it (0 + ((i + 1 : Nat) : Int)) old) ∧ IterA k s2.heap it a (i + 1)) ∧ ∀ b ∈ [e, it], H' b = none) E (by rw [List.size_toArray]; omega) ⟨he, ⟨h1, p⟩⟩ fun v h' tk hY st' hk htk => ?_) (fun r s1 hr => ?_) fun _ _ e => e
    · obtain ⟨T, t, v1, rfl, hn, e1, hT⟩ := hY
      obtain ⟨he', ⟨h1', _⟩⟩ := st'
      have e1' : v1 = u := by
        have q : its[i]? = some v1 := by simpa using e1
        rw [hu] at q
        exact (Option.some.inj q).symm
      subst e1'
      obtain ⟨oT, hoT, hcT, nT, hdT⟩ := hT
      have new : ObjOk X.prog X.w (upd H T (.tup [.int (i : Nat), x])) h' T (.tup [.int (i : Nat), x]) :=
        ⟨by show 2 ≤ sizeLine; decide, [.int (0 + (i : Int)) t, v1], .cons ⟨t, by rw [Int.zero_add]⟩ (.cons ru .nil), ⟨oT, hoT, hcT, nT, hdT⟩⟩
      have I1 : Inv X pins σ (upd H T (.tup [.int (i : Nat), x])) { s with heap := h', toks := tk } :=
        I.turnedNew (t' := tk) (ch := [e, it]) (fun c o hb q => hk c o hb q) hf hn new
      refine ⟨.ref T, _, I1, rfl, ⟨T, x, rfl, I.hok.fresh hn, rfl, fun l hl => by rw [seqA_inj I hl hq]; exact hx⟩, ⟨he', h1'⟩, fun c hcm => ?_⟩
      rw [upd_ne (Nat.ne_of_lt (Nat.lt_of_lt_of_le (hlt c hcm) hn))]
      exact (hf c hcm).1
    · obtain ⟨v, rfl, hr⟩ := hr
      exact ⟨v, rfl, hr⟩
  done := by
    intro X hP hw hK hc i pins s σ H E I hf st hg
    subst hP hw hK
    obtain ⟨he, h1⟩ := st
    obtain ⟨xs, hq, hend⟩ := hg
    obtain ⟨its, rv, p, _⟩ := seqA I hq
    have l1 := rv.length
    have hh : X.A.in1.handled = none := I.ok.hd hc
    have W := GoesN.enumFrom (prog := X.prog) (w := X.w) (A := X.A) (elts := elts) (x1 := kk) (pos := tpos) 0 (drawsA k hh it a hai its.toArray) e hei (by simp [hei, hea]) (by simp)
    have en : i = its.toArray.size := by rw [List.size_toArray]; omega
    subst en
    exact W.stops s (fun s1 => Inv X pins σ H s1) E ⟨he, ⟨h1, p⟩⟩ fun h' tk hk htk => I.turnedL (t' := tk) (ch := [e, it]) (fun c o hb q => hk c o hb q) hf
  self := fun A i s Q E st h => let ⟨⟨_, he⟩, _⟩ := st; wpAny_pyIter_enum he h
def iEnumAny (K : PySem.W.Frag) (ta : TA) : TI := fun σ H R => ta σ H fun vs H1 => ∃ a k xs, vs = [.ref a] ∧ SqA k K H1 a xs ∧ R (IteA K k a) H1
theorem pi_enumAny {X : Cx} {e : Expr} {ta : TA} {p pos tpos : Pos} {elts : List Expr} {kk : Nat} (hg : Gl X "enumerate") (hm : X.mg "enumerate" = none) (ha : PA X [e] ta) (hs : starEach [e] X.env = (false, eval e X.env) :: starEach [] X.env := by rfl) :
    PI X (.Tuple elts kk tpos) (.Call (.Name "enumerate" p) [e] [] pos) (iEnumAny X.K ta) := by
  refine ⟨fun pins s σ H R I h => ?_⟩
  refine Call_ (ld_blt I hg hm boot_enumerate (PyProof.Rows.callWith_type1 (thn (ha.run pos pins s σ H _ I h) fun us s1 ⟨vs, H1, I1, r1, q1⟩ => ?_) hs rfl))
  obtain ⟨a, k, xs, ex, hq, q⟩ := q1
  subst ex
  cases r1 with
  | cons r rr =>
    cases rr
    cases r
    obtain ⟨its, rv, p1, la⟩ := seqA I1 hq
    refine call_enumerateA (beginsA k a its.toArray) p1 fun h' he hit hk => wpAny_pyIter_enum he ?_
    have I2 : Inv X pins σ H1 { s1 with heap := h' } := I1.kept (t' := s1.toks) hk
    refine ⟨s1.heap.objs.size + 1, [s1.heap.objs.size + 1, s1.heap.objs.size], _, _, H1, rfl, I2, turn_enumA k (Nat.succ_ne_self _) (Nat.ne_of_gt (Nat.lt_of_lt_of_le la (Nat.le_succ _))) (Nat.ne_of_lt la), ⟨⟨.none, by simpa using he⟩, iterA_new hit⟩, fun b hb => ?_, q⟩
    have e' : b = s1.heap.objs.size + 1 ∨ b = s1.heap.objs.size := by simpa using hb
    have hle : s1.heap.objs.size ≤ b := by
      rcases e' with z | z
      · rw [z]; exact Nat.le_add_right _ _
      · rw [z]; exact Nat.le_refl _
    exact I1.fpOk hle (I1.hok.fresh hle)
theorem walk_enumA {K : PySem.W.Frag} {k : Bool} {a : Addr} {xs : List V} : Walk (IteA K k a) xs.length (fun H => SqA k K H a xs) (YPair (fun i => some (.int (i : Nat))) (fun i => xs[i]?)) := by
  refine ⟨fun i _ hi q => ⟨xs, xs[i], q, by simp [hi]⟩, fun _ q => ⟨xs, q, rfl⟩, fun i H v H' _ q y => ?_⟩
  obtain ⟨T, x, h1, h2, h3, h4⟩ := y
  exact ⟨T, .int (i : Nat), x, h1, h2, h3, rfl, h4 xs q⟩
end Dv

set_option Elab.async false
set_option linter.all false
set_option maxRecDepth 100000
set_option maxHeartbeats 2000000
/-! Dv5: what the language reckons is what the model does: expressions, first part (readings, operators, built-ins). -/
namespace Dv
open PySem PySem.Spec PyProof.Rows L2

/-! ### new objects -/
section
variable {c : Fc} {env : Env} {pend : List (Addr × List D)} {τ : Tp} {σ : L2.St} {H H' Hs Hs' : Hp} {v : V} {p : Addr} {o : HO}
theorem Core.Tsome (C : Core c τ H Hs) : H c.T ≠ none := by
  obtain ⟨x, _, h⟩ := C.tape
  rw [h]
  exact fun z => nomatch z
theorem Core.grow (C : Core c τ H Hs) (n : H p = none) : Core c τ (upd H p o) Hs := by
  have ne : ∀ a, H a ≠ none → a ≠ p := fun a h e => h (by rw [e]; exact n)
  have Tp : c.T ≠ p := ne _ C.Tsome
  refine ⟨fun a u e => ?_, fun a u e h1 h2 => ?_, C.old, C.new, ?_, C.nT, C.nt, C.tabs.ext fun b u e => (upd_ne (ne b (by rw [e]; exact fun z => nomatch z))).trans e⟩
  · have q := C.sub a u e
    rw [upd_ne (ne a (by rw [q]; exact fun z => nomatch z))]
    exact q
  · have q := C.keep a u e h1 h2
    rw [upd_ne (ne a (by rw [q]; exact fun z => nomatch z))]
    exact q
  · obtain ⟨x, t1, t2⟩ := C.tape
    exact ⟨x, t1, by rw [upd_ne Tp]; exact t2⟩
theorem Core.none0 (C : Core c τ H Hs) (n : H p = none) : Free c.H0 p := fun u e nt => by
  have q := C.keep p u e (fun z => C.Tsome (by rw [← z]; exact n)) nt
  rw [n] at q
  cases q
theorem Core.noneS (C : Core c τ H Hs) (n : H p = none) : Hs p = none := Sub.none C.sub n
theorem Core.growS (C : Core c τ H Hs) (n : H p = none) (nt : NT o) : Core c τ (upd H p o) (upd Hs p o) := by
  have C1 := C.grow (o := o) n
  have Tp : c.T ≠ p := fun e => C.Tsome (by rw [e]; exact n)
  have e : Sub Hs (upd Hs p o) := Sub.new (C.noneS n)
  refine ⟨Sub.upd C.sub, C1.keep, C.old.trans e, fun a h => ?_, ?_, ?_, fun a u h => ?_, C1.tabs⟩
  · by_cases ha : a = p
    · exact .inr (by rw [ha]; exact C.none0 n)
    · rw [upd_ne ha] at h
      exact C.new a h
  · obtain ⟨x, t1, t2⟩ := C1.tape
    exact ⟨x, e _ _ t1, t2⟩
  · rw [upd_ne Tp]
    exact C.nT
  · by_cases ha : a = p
    · rw [ha, upd_same] at h
      cases h
      exact nt
    · rw [upd_ne ha] at h
      exact C.nt a u h
theorem OwnAt.ne {a : Addr} {xs : List D} (w : OwnAt c H Hs a xs) (n : H p = none) : a ≠ p := by
  obtain ⟨vs, h1, _⟩ := w.at_
  exact ne_of_none h1 n
theorem OwnAt.new {a : Addr} {xs : List D} (w : OwnAt c H Hs a xs) (n : H p = none) : OwnAt c (upd H p o) Hs a xs :=
  w.grow (Sub.refl _) w.nHs (upd_ne (w.ne n))
theorem OwnAt.newS {a : Addr} {xs : List D} (w : OwnAt c H Hs a xs) (n : H p = none) (ns : Hs p = none) : OwnAt c (upd H p o) (upd Hs p o) a xs :=
  w.grow (Sub.new ns) (by rw [upd_ne (w.ne n)]; exact w.nHs) (upd_ne (w.ne n))
theorem Stt.newList {vs : List V} {xs : List D} (s : Stt c env pend τ σ H Hs) (n : H p = none) (r : RpAll c.K Hs vs xs) : Stt c env ((p, xs) :: pend) τ σ (upd H p (.lst vs)) Hs := by
  have o1 : OwnAt c (upd H p (.lst vs)) Hs p xs := ⟨⟨vs, upd_same, r⟩, s.core.noneS n, s.core.none0 n, fun e => s.core.Tsome (by rw [← e]; exact n)⟩
  refine ⟨s.core.grow n, s.len, fun i x hx => ?_, s.inj, fun q hq => ?_, fun q hq i ys hy z => ?_, ?_⟩
  · have h := s.slot i x hx
    cases x with
    | sh x => exact h
    | own ys =>
      obtain ⟨a, h1, h2⟩ := h
      exact ⟨a, h1, h2.new n⟩
  · rcases List.mem_cons.mp hq with e | hq
    · rw [e]
      exact o1
    · exact (s.pnd q hq).new n
  · rcases List.mem_cons.mp hq with e | hq
    · obtain ⟨a, h1, h2⟩ := s.slot i _ hy
      rw [h1, e] at z
      exact h2.ne n (V.ref.inj (Option.some.inj (Option.some.inj z)))
    · exact s.pno q hq i ys hy z
  · rw [List.map_cons, List.nodup_cons]
    refine ⟨fun hm => ?_, s.pdup⟩
    obtain ⟨q, hq, e⟩ := List.mem_map.mp hm
    exact (s.pnd q hq).ne n e
theorem Stt.newObj (s : Stt c env pend τ σ H Hs) (n : H p = none) (nt : NT o) : Stt c env pend τ σ (upd H p o) (upd Hs p o) := by
  have ns := s.core.noneS n
  refine ⟨s.core.growS n nt, s.len, fun i x hx => ?_, s.inj, fun q hq => (s.pnd q hq).newS n ns, s.pno, s.pdup⟩
  have h := s.slot i x hx
  cases x with
  | sh x =>
    obtain ⟨u, h1, h2⟩ := h
    exact ⟨u, h1, h2.sub (Sub.new ns)⟩
  | own ys =>
    obtain ⟨a, h1, h2⟩ := h
    exact ⟨a, h1, h2.newS n ns⟩
theorem Stt.newTup {vs : List V} {xs : List D} (s : Stt c env pend τ σ H Hs) (n : H p = none) (r : RpAll c.K Hs vs xs) :
    Sub Hs (upd Hs p (.tup vs)) ∧ Stt c env pend τ σ (upd H p (.tup vs)) (upd Hs p (.tup vs)) ∧ Rp c.K (upd Hs p (.tup vs)) (.ref p) (.tuple xs) := by
  have e : Sub Hs (upd Hs p (.tup vs)) := Sub.new (s.core.noneS n)
  exact ⟨e, s.newObj n (fun ps z => nomatch z), .tup (SqT.of upd_same) (r.sub e)⟩
end

/-! ### readings -/
/-- what is wanted behind a reckoning -/
def PRd (c : Fc) (W : WX) (σ : L2.St) {α β : Type} (P : α → Env → Tp → β → Hp → Hp → Prop) (Hs : Hp) (r : R α) (Q : β → Hp → Prop) : Prop := match r with
  | .ok a env τ => ∀ b H' Hs', Sub Hs Hs' → P a env τ b H' Hs' → Q b H'
  | .err cl τ => ∀ C H' Hs', c.mg cl = some (.ref C) → Core c τ H' Hs' → W (.ref C) none σ H'
  | .stuck => False
def PV (c : Fc) (pend : List (Addr × List D)) (σ : L2.St) : Rv → Env → Tp → V → Hp → Hp → Prop := fun rv env τ v H Hs => Post c env pend τ σ rv v H Hs
def PB (c : Fc) (pend : List (Addr × List D)) (σ : L2.St) {α : Type} : α → Env → Tp → α → Hp → Hp → Prop := fun b env τ b' H Hs => b' = b ∧ Stt c env pend τ σ H Hs
inductive RvBs (c : Fc) (σ : L2.St) (Hs : Hp) : List V → List Rv → Prop
  | nil : RvBs c σ Hs [] []
  | cons {v : V} {vs : List V} {r : Rv} {rs : List Rv} : RvB c σ Hs v r → RvBs c σ Hs vs rs → RvBs c σ Hs (v :: vs) (r :: rs)
def PAs (c : Fc) (pend : List (Addr × List D)) (σ : L2.St) : List Rv → Env → Tp → List V → Hp → Hp → Prop := fun rs env τ vs H Hs => Stt c env pend τ σ H Hs ∧ RvBs c σ Hs vs rs
section
variable {c : Fc} {W : WX} {σ : L2.St} {α β α' β' : Type} {P : α → Env → Tp → β → Hp → Hp → Prop} {P' : α' → Env → Tp → β' → Hp → Hp → Prop} {Hs Hs' : Hp}
theorem PRd.mono {r : R α} {Q : β → Hp → Prop} (h : PRd c W σ P Hs r Q) (e : Sub Hs Hs') : PRd c W σ P Hs' r Q := by
  cases r with
  | ok a env τ => exact fun b H' Hs2 e2 p => h b H' Hs2 (e.trans e2) p
  | err cl τ => exact h
  | stuck => exact h
theorem prd_bind {r : R α} {f : α → Env → Tp → R α'} {Q : β' → Hp → Prop} {Q' : β → Hp → Prop} (h : PRd c W σ P' Hs (r.bind f) Q)
    (k : ∀ a env τ b H' Hs', Sub Hs Hs' → P a env τ b H' Hs' → PRd c W σ P' Hs' (f a env τ) Q → Q' b H') : PRd c W σ P Hs r Q' := by
  cases r with
  | ok a env τ => exact fun b H' Hs2 e2 p => k a env τ b H' Hs2 e2 p (PRd.mono (r := f a env τ) h e2)
  | err cl τ => exact h
  | stuck => exact h
theorem prd_of {γ : Type} {o : Option γ} {f : γ → R α} {Q : β → Hp → Prop} (h : PRd c W σ P Hs (of? o f) Q) : ∃ a, o = some a ∧ PRd c W σ P Hs (f a) Q := by
  cases o with
  | none => exact h.elim
  | some a => exact ⟨a, rfl, h⟩
theorem RvBs.sub {vs : List V} {rs : List Rv} (h : RvBs c σ Hs vs rs) (e : Sub Hs Hs') : RvBs c σ Hs' vs rs := by
  induction h with
  | nil => exact .nil
  | cons a _ ih => exact .cons (a.sub e) ih
end
section
variable (Φ : Orc) (c : Fc) (W : WX)
def tE (e : E) : TE := fun σ H Q => ∃ env pend τ Hs, Stt c env pend τ σ H Hs ∧ PRd c W σ (PV c pend σ) Hs (ev Φ e env τ) Q
def tT (e : T) : TT := fun σ H Q => ∃ env pend τ Hs, Stt c env pend τ σ H Hs ∧ PRd c W σ (PB c pend σ) Hs (evT Φ e env τ) Q
def tO (e : O) : TO := fun σ H Q => ∃ env pend τ Hs, Stt c env pend τ σ H Hs ∧ PRd c W σ (PB c pend σ) Hs (evO Φ e env τ) Q
def tA (es : Es) : TA := fun σ H Q => ∃ env pend τ Hs, Stt c env pend τ σ H Hs ∧ PRd c W σ (PAs c pend σ) Hs (evA Φ es env τ) Q
end
theorem pe_imp {X : Cx} {x : Expr} {t t' : TE} (h : PE X x t) (i : ∀ σ H Q, t' σ H Q → t σ H Q) : PE X x t' := ⟨fun pins s σ H Q I q => h.run pins s σ H Q I (i σ H Q q)⟩
theorem pt_imp {X : Cx} {x : Expr} {t t' : TT} (h : PT X x t) (i : ∀ σ H Q, t' σ H Q → t σ H Q) : PT X x t' := ⟨fun pins s σ H Q I q => h.run pins s σ H Q I (i σ H Q q)⟩
theorem pw_imp {X : Cx} {x : Expr} {t t' : TT} (h : PW X x t) (i : ∀ σ H Q, t' σ H Q → t σ H Q) : PW X x t' := ⟨fun wh pins s σ H Q I q => h.run wh pins s σ H Q I (i σ H Q q)⟩
theorem po_imp {X : Cx} {x : Option Expr} {t t' : TO} (h : PO X x t) (i : ∀ σ H Q, t' σ H Q → t σ H Q) : PO X x t' := ⟨fun pins s σ H Q I q => h.run pins s σ H Q I (i σ H Q q)⟩
theorem pa_imp {X : Cx} {x : List Expr} {t t' : TA} (h : PA X x t) (i : ∀ σ H Q, t' σ H Q → t σ H Q) : PA X x t' := ⟨fun pos pins s σ H Q I q => h.run pos pins s σ H Q I (i σ H Q q)⟩

/-! ### what a def promises; the facts of a context -/
def VasOk (c : Fc) (Hs : Hp) : List V → List Va → Prop
  | [], [] => True
  | v :: vs, x :: xs => VaOk c Hs v x ∧ VasOk c Hs vs xs
  | _, _ => False
def FRd (K : PySem.W.Frag) (mg : Str → Option Value) (TL : List (Addr × Str)) (T : Addr) (H Hs : Hp) (r : FR) (Q : VK) (E : XK) : Prop := match r with
  | .ok x τ' => ∀ u H' Hs', Core ⟨K, mg, T, H, Hs, TL⟩ τ' H' Hs' → VaOk ⟨K, mg, T, H, Hs, TL⟩ Hs' u x → Q u H'
  | .err cl τ' => ∀ C H' Hs', mg cl = some (.ref C) → Core ⟨K, mg, T, H, Hs, TL⟩ τ' H' Hs' → E (.ref C) none H'
  | .stuck => False
def spD (K : PySem.W.Frag) (mg : Str → Option Value) (TL : List (Addr × Str)) (n : Nat) (F : List Va → Tp → FR) : Sp := fun vs H Q E => vs.length = n ∧ ∃ T Hs xs τ,
  Core ⟨K, mg, T, H, Hs, TL⟩ τ H Hs ∧ VasOk ⟨K, mg, T, H, Hs, TL⟩ Hs vs xs ∧ FRd K mg TL T H Hs (F xs τ) Q E
structure FnAt (X : Cx) (TL : List (Addr × Str)) (Φ : Orc) (f : Str) (n : Nat) : Prop where
  ex : ∃ (a : Addr) (fd : FuncData) (ps : List Str) (k : Nat), X.mg f = some (.ref a) ∧ PySem.W.keepIn X.K (.ref a) = true ∧ Binds X.K fd ps [] ∧ Room k X.A ∧
    FnOk X.prog X.w X.K X.mg X.base (L2.CX X.prog X.w) k a fd ps (spD X.K X.mg TL n (Φ f))
def CstAt (X : Cx) (x : Str) (d : D) : Prop := ∃ (u : Value) (v : V), X.mg x = some u ∧ RelV v u ∧ ∀ H : Hp, Rp X.K H v d
structure Sig where
  fns : List (Str × Nat)
  cst : List (Str × D)
  exc : List Str
def bltNames : List Str := ["len", "abs", "int", "max", "min", "sum", "all", "any", "tuple", "list", "sorted", "range", "zip", "enumerate", "reversed", "set"]
structure Good (X : Cx) (W : WX) (c : Fc) (Φ : Orc) (g : Sig) : Prop where
  calm : X.calm = true
  nd : X.N.Nodup
  tk : Takes X W
  hK : X.K = c.K
  hmg : X.mg = c.mg
  room : X.A.units + 65 < cLine
  fns : ∀ p ∈ g.fns, FnAt X c.TL Φ p.1 p.2
  cst : ∀ p ∈ g.cst, CstAt X p.1 p.2
  blt : ∀ x ∈ bltNames, X.mg x = none
theorem Good.blk {X : Cx} {W : WX} {c : Fc} {Φ : Orc} {g : Sig} (G : Good X W c Φ g) (s : Shared) (H : Hp) (scope : Scope) (cenv : PySem.Env) (fp : List Addr) : Good (X.blk s H scope cenv fp) (fun _ _ _ _ => False) c Φ g :=
  ⟨G.calm, G.nd, L2.takes0, G.hK, G.hmg, G.room, fun p hp => ⟨(G.fns p hp).ex⟩, G.cst, G.blt⟩
end Dv

set_option Elab.async false
set_option linter.all false
set_option maxRecDepth 100000
set_option maxHeartbeats 2000000
/-! Dv6: operators: what the model's rules give is what the language reckons. -/
namespace Dv
open PySem PySem.Spec PyProof.Rows L2
section
variable {X : Cx} {c : Fc} {W : WX} {Φ : Orc} {g : Sig} {env : Env} {pend : List (Addr × List D)} {τ : Tp} {σ : L2.St} {H H' Hs Hs' : Hp} {v u : V} {x y : D}
/-! ### shapes -/
theorem rpB_int {K : PySem.W.Frag} {i : Int} (h : RpB K H Hs v (.int i)) : v = .int i := by
  rcases h with h | ⟨_, _, _, e, _⟩
  · cases h
    rfl
  · cases e
theorem rpB_bool {K : PySem.W.Frag} {b : Bool} (h : RpB K H Hs v (.bool b)) : v = .bl b := by
  rcases h with h | ⟨_, _, _, e, _⟩
  · cases h
    rfl
  · cases e
theorem rpB_str {K : PySem.W.Frag} {z : Str} (h : RpB K H Hs v (.str z)) : v = .str z := by
  rcases h with h | ⟨_, _, _, e, _⟩
  · cases h
    rfl
  · cases e
theorem rpB_list {K : PySem.W.Frag} {xs : List D} (h : RpB K H Hs v (.list xs)) (e : Sub Hs H) : ∃ a vs, v = .ref a ∧ H a = some (.lst vs) ∧ RpAll K Hs vs xs := by
  rcases h with h | ⟨a, vs, ys, e1, e2, e3, e4⟩
  · cases h with
    | lst h1 h2 => exact ⟨_, _, rfl, e _ _ h1, h2⟩
  · cases e1
    exact ⟨a, vs, e2, e3, e4⟩
theorem rpB_tup {K : PySem.W.Frag} {xs : List D} (h : RpB K H Hs v (.tuple xs)) (e : Sub Hs H) : ∃ a vs, v = .ref a ∧ SqT K H a vs ∧ RpAll K Hs vs xs ∧ Rp K Hs v (.tuple xs) := by
  rcases h with h | ⟨_, _, _, e1, _⟩
  · cases h with
    | tup h1 h2 => exact ⟨_, _, rfl, sub_t e h1, h2, .tup h1 h2⟩
  · cases e1
theorem len_ok {vs : List V} {xs : List D} (K : PySem.W.Frag) (h : RpAll K Hs vs xs) : vs.length = xs.length := h.length
/-! ### ends -/
theorem fin_sh {z : Va} {Q : VK} (h : PRd c W σ (PV c pend σ) Hs (.ok (.sh z) env τ) Q) (s : Stt c env pend τ σ H Hs) (k : VaOk c Hs v z) : Q v H := h v H Hs (Sub.refl _) ⟨s, k⟩
theorem fin_fr {vs : List V} {xs : List D} {p : Addr} {Q : VK} (h : PRd c W σ (PV c pend σ) Hs (.ok (.fr xs) env τ) Q) (s : Stt c env pend τ σ H Hs) (n : H p = none) (r : RpAll c.K Hs vs xs) : Q (.ref p) (upd H p (.lst vs)) :=
  h (.ref p) _ Hs (Sub.refl _) ⟨p, rfl, s.newList n r⟩
theorem fin_tup {vs : List V} {xs : List D} {p : Addr} {Q : VK} (h : PRd c W σ (PV c pend σ) Hs (.ok (.sh (.d (.tuple xs))) env τ) Q) (s : Stt c env pend τ σ H Hs) (n : H p = none) (r : RpAll c.K Hs vs xs) : Q (.ref p) (upd H p (.tup vs)) := by
  obtain ⟨e, s1, r1⟩ := s.newTup n r
  exact h (.ref p) _ _ e ⟨s1, r1⟩
theorem opnd {α' β' : Type} {P' : α' → Env → Tp → β' → Hp → Hp → Prop} {r : R Rv} {f : Rv → Env → Tp → R α'} {Q : β' → Hp → Prop} {Q' : VK} (h : PRd c W σ P' Hs (r.bind f) Q)
    (k : ∀ rv env τ v H' Hs', Sub Hs Hs' → Stt c env pend τ σ H' Hs' → RvB c σ Hs' v (unfr rv) → PRd c W σ P' Hs' (f rv env τ) Q → Q' v H') : PRd c W σ (PV c pend σ) Hs r Q' :=
  prd_bind h fun rv env τ v H' Hs1 e p q => by
    obtain ⟨Hs2, e2, s, b⟩ := post_unfr p
    exact k rv env τ v H' Hs2 (e.trans e2) s b (q.mono e2)
theorem okLen_le {n : Nat} (h : okLen n = true) : n ≤ sizeLine := Nat.le_trans (of_decide_eq_true h) (by rw [sizeLine_eq]; decide)
theorem okLen_lt {n : Nat} (h : okLen n = true) : n < sizeLine := Nat.lt_of_le_of_lt (of_decide_eq_true h) (by rw [sizeLine_eq]; decide)

/-! ### two-place operators -/
/-- an operation of the model's is one of data -/
def Bin2 (X : Cx) (c : Fc) (op : Value → Value → Sem Value) (dop : D → D → Option Rv) : Prop := ∃ r : R2, OpR X op r ∧
  ∀ (W : WX) (env : Env) (pend : List (Addr × List D)) (τ : Tp) (σ : L2.St) (H Hs : Hp) (x y : D) (z : Rv) (v u : V) (Q : VK), Stt c env pend τ σ H Hs → RpB c.K H Hs v x → RpB c.K H Hs u y → dop x y = some z →
    PRd c W σ (PV c pend σ) Hs (.ok z env τ) Q → r v u H Q
def opOf : BO → Operator
  | .add => .Add
  | .sub => .Sub
  | .mul => .Mult
  | .fdiv => .FloorDiv
  | .mod => .Mod
theorem bin_ok (G : Good X W c Φ g) (o : BO) : Bin2 X c (binaryOp (opOf o)) (binD o) := by
  cases o with
  | add =>
    refine ⟨_, OpR.or (OpR.or op_add op_cat) (OpR.or op_catA op_add_str), fun W env pend τ σ H Hs x y z v u Q s hx hy e h => ?_⟩
    unfold binD at e
    split at e
    all_goals first
      | (rename_i h1; cases h1; done)
      | skip
    · cases e
      have e1 := rpB_int hx
      have e2 := rpB_int hy
      exact .inl (.inl ⟨_, _, e1, e2, fin_sh h s (.int _)⟩)
    · split at e
      · rename_i hl
        cases e
        obtain ⟨a, vs, rfl, h1, h2⟩ := rpB_list hx s.core.sub
        obtain ⟨b, ws, rfl, h3, h4⟩ := rpB_list hy s.core.sub
        refine .inl (.inr ⟨a, b, vs, ws, rfl, rfl, h1, h3, ?_, fun p n => fin_fr h s n (h2.append h4)⟩)
        rw [h2.length, h4.length]
        exact okLen_le hl
      · cases e
    · split at e
      · rename_i hl
        cases e
        obtain ⟨a, vs, rfl, h1, h2, h2'⟩ := rpB_tup hx s.core.sub
        obtain ⟨b, ws, rfl, h3, h4, h4'⟩ := rpB_tup hy s.core.sub
        refine .inr (.inl ⟨a, b, vs, ws, rfl, rfl, by rw [G.hK]; exact h1, by rw [G.hK]; exact h3, ?_, fun e0 => ?_, fun _ e0 => ?_, fun _ _ p n => fin_tup h s n (h2.append h4)⟩)
        · rw [h2.length, h4.length]
          exact okLen_le hl
        · subst e0
          cases h2
          exact fin_sh h s h4'
        · subst e0
          cases h4
          refine fin_sh h s ?_
          rw [List.append_nil]
          exact h2'
      · cases e
    · split at e
      · rename_i hl
        cases e
        have e1 := rpB_str hx
        have e2 := rpB_str hy
        exact .inr (.inr ⟨_, _, e1, e2, okLen_le hl, fin_sh h s (.str _)⟩)
      · cases e
    all_goals cases e
  | sub =>
    refine ⟨_, op_sub, fun W env pend τ σ H Hs x y z v u Q s hx hy e h => ?_⟩
    unfold binD at e
    split at e
    all_goals first
      | (rename_i h1; cases h1; done)
      | skip
    · cases e
      exact ⟨_, _, rpB_int hx, rpB_int hy, fin_sh h s (.int _)⟩
    all_goals cases e
  | mul =>
    refine ⟨_, OpR.or op_mulB (OpR.or op_rep op_repA), fun W env pend τ σ H Hs x y z v u Q s hx hy e h => ?_⟩
    unfold binD at e
    split at e
    all_goals first
      | (rename_i h1; cases h1; done)
      | skip
    · split at e
      · rename_i hl
        cases e
        unfold bitsOk at hl
        have hl2 := of_decide_eq_true hl
        exact .inl ⟨_, _, rpB_int hx, rpB_int hy, hl2, fin_sh h s (.int _)⟩
      · cases e
    · split at e
      · rename_i hl
        cases e
        simp only [Bool.and_eq_true, decide_eq_true_eq] at hl
        obtain ⟨⟨⟨l1, l2⟩, l3⟩, l4⟩ := hl
        obtain ⟨a, vs, rfl, h1, h2⟩ := rpB_list hx s.core.sub
        refine .inr (.inl ⟨a, _, vs, rfl, rpB_int hy, h1, by omega, by omega, ?_, fun p n => fin_fr h s n (h2.rep _)⟩)
        rw [h2.length]
        exact okLen_le l4
      · cases e
    · split at e
      · rename_i hl
        cases e
        simp only [Bool.and_eq_true, decide_eq_true_eq] at hl
        obtain ⟨⟨l1, l2⟩, l3⟩ := hl
        obtain ⟨a, vs, rfl, h1, h2, h2'⟩ := rpB_tup hx s.core.sub
        refine .inr (.inr ⟨a, _, vs, rfl, rpB_int hy, by rw [G.hK]; exact h1, l1, l2, by rw [h2.length]; exact l3, fun e0 => ?_, fun _ p n => fin_tup h s n (h2.rep _)⟩)
        refine fin_sh h s ?_
        rcases e0 with e0 | e0
        · subst e0
          have h2'' := h2
          cases h2
          rw [show (List.replicate _ ([] : List D)).flatten = [] from by
            induction Int.toNat _ with
            | zero => rfl
            | succ n ih => rw [List.replicate_succ, List.flatten_cons, ih]; rfl]
          exact h2'
        · subst e0
          rw [show (List.replicate (Int.toNat 1) _).flatten = _ from List.append_nil _]
          exact h2'
      · cases e
    all_goals cases e
  | fdiv =>
    refine ⟨_, op_fdiv9, fun W env pend τ σ H Hs x y z v u Q s hx hy e h => ?_⟩
    unfold binD at e
    split at e
    all_goals first
      | (rename_i h1; cases h1; done)
      | skip
    · split at e
      · cases e
      · rename_i hl
        cases e
        simp only [Bool.or_eq_true, not_or, decide_eq_true_eq, Bool.not_eq_true', decide_eq_false_iff_not, Decidable.not_not] at hl
        exact ⟨_, _, rpB_int hx, rpB_int hy, hl, fin_sh h s (.int _)⟩
    all_goals cases e
  | mod =>
    refine ⟨_, op_modN, fun W env pend τ σ H Hs x y z v u Q s hx hy e h => ?_⟩
    unfold binD at e
    split at e
    all_goals first
      | (rename_i h1; cases h1; done)
      | skip
    · split at e
      · cases e
      · rename_i hl
        cases e
        exact ⟨_, _, rpB_int hx, rpB_int hy, hl, fin_sh h s (.int _)⟩
    all_goals cases e
/-! ### comparisons -/
def copOf : CO → CmpOp
  | .eq => .Eq
  | .ne => .NotEq
  | .lt => .Lt
  | .le => .LtE
  | .gt => .Gt
  | .ge => .GtE
  | .in_ => .In
  | .notin => .NotIn
def boolRv (b : Bool) : Rv := .sh (.d (.bool b))
theorem cmp_ok (G : Good X W c Φ g) (o : CO) : Bin2 X c (compareOp (copOf o)) (fun x y => (cmpD o x y).map boolRv) := by
  cases o with
  | eq =>
    refine ⟨_, op_eqD (Nat.lt_of_succ_lt G.room), fun W env pend τ σ H Hs x y z v u Q s hx hy e h => ?_⟩
    obtain ⟨b, eb, rfl⟩ := Option.map_eq_some_iff.mp e
    simp only [cmpD] at eb
    split at eb
    · rename_i hl
      cases eb
      obtain ⟨l1, l2⟩ := Bool.and_eq_true_iff.mp hl
      refine ⟨x, y, ?_, ?_, l1, l2, fin_sh h s (.bl _)⟩
      · rw [G.hK]; exact (hx.dp s.core.sub).dp
      · rw [G.hK]; exact (hy.dp s.core.sub).dp
    · cases eb
  | ne =>
    refine ⟨_, op_neD (Nat.lt_of_succ_lt G.room), fun W env pend τ σ H Hs x y z v u Q s hx hy e h => ?_⟩
    obtain ⟨b, eb, rfl⟩ := Option.map_eq_some_iff.mp e
    simp only [cmpD] at eb
    split at eb
    · rename_i hl
      cases eb
      obtain ⟨l1, l2⟩ := Bool.and_eq_true_iff.mp hl
      refine ⟨x, y, ?_, ?_, l1, l2, fin_sh h s (.bl _)⟩
      · rw [G.hK]; exact (hx.dp s.core.sub).dp
      · rw [G.hK]; exact (hy.dp s.core.sub).dp
    · cases eb
  | lt =>
    refine ⟨_, op_lt, fun W env pend τ σ H Hs x y z v u Q s hx hy e h => ?_⟩
    obtain ⟨b, eb, rfl⟩ := Option.map_eq_some_iff.mp e
    unfold cmpD at eb
    split at eb
    all_goals first
      | (rename_i h1; cases h1; done)
      | skip
    · cases eb
      exact ⟨_, _, rpB_int hx, rpB_int hy, fin_sh h s (.bl _)⟩
    all_goals cases eb
  | le =>
    refine ⟨_, op_le, fun W env pend τ σ H Hs x y z v u Q s hx hy e h => ?_⟩
    obtain ⟨b, eb, rfl⟩ := Option.map_eq_some_iff.mp e
    unfold cmpD at eb
    split at eb
    all_goals first
      | (rename_i h1; cases h1; done)
      | skip
    · cases eb
      exact ⟨_, _, rpB_int hx, rpB_int hy, fin_sh h s (.bl _)⟩
    all_goals cases eb
  | gt =>
    refine ⟨_, op_gt, fun W env pend τ σ H Hs x y z v u Q s hx hy e h => ?_⟩
    obtain ⟨b, eb, rfl⟩ := Option.map_eq_some_iff.mp e
    unfold cmpD at eb
    split at eb
    all_goals first
      | (rename_i h1; cases h1; done)
      | skip
    · cases eb
      exact ⟨_, _, rpB_int hx, rpB_int hy, fin_sh h s (.bl _)⟩
    all_goals cases eb
  | ge =>
    refine ⟨_, op_ge, fun W env pend τ σ H Hs x y z v u Q s hx hy e h => ?_⟩
    obtain ⟨b, eb, rfl⟩ := Option.map_eq_some_iff.mp e
    unfold cmpD at eb
    split at eb
    all_goals first
      | (rename_i h1; cases h1; done)
      | skip
    · cases eb
      exact ⟨_, _, rpB_int hx, rpB_int hy, fin_sh h s (.bl _)⟩
    all_goals cases eb
  | in_ =>
    refine ⟨_, OpR.or (op_inD G.room) (op_inT G.room), fun W env pend τ σ H Hs x y z v u Q s hx hy e h => ?_⟩
    obtain ⟨b, eb, rfl⟩ := Option.map_eq_some_iff.mp e
    simp only [cmpD, inD] at eb
    split at eb
    · rename_i hl
      obtain ⟨l1, l2⟩ := Bool.and_eq_true_iff.mp hl
      have kx := (hx.dp s.core.sub).dp
      have ky := (hy.dp s.core.sub).dp
      rw [← G.hK] at kx ky
      obtain ⟨xs, ex, rfl⟩ := Option.map_eq_some_iff.mp eb
      cases y with
      | list ys =>
        cases ex
        exact .inl ⟨x, _, kx, ky, l1, l2, fin_sh h s (.bl _)⟩
      | tuple ys =>
        cases ex
        exact .inr ⟨x, _, kx, ky, l1, l2, fin_sh h s (.bl _)⟩
      | _ => cases ex
    · cases eb
  | notin =>
    refine ⟨_, OpR.or (op_notInD G.room) (op_notInT G.room), fun W env pend τ σ H Hs x y z v u Q s hx hy e h => ?_⟩
    obtain ⟨b, eb, rfl⟩ := Option.map_eq_some_iff.mp e
    simp only [cmpD, inD] at eb
    split at eb
    · rename_i hl
      obtain ⟨l1, l2⟩ := Bool.and_eq_true_iff.mp hl
      have kx := (hx.dp s.core.sub).dp
      have ky := (hy.dp s.core.sub).dp
      rw [← G.hK] at kx ky
      obtain ⟨b', eb', rfl⟩ := Option.map_eq_some_iff.mp eb
      obtain ⟨xs, ex, rfl⟩ := Option.map_eq_some_iff.mp eb'
      cases y with
      | list ys =>
        cases ex
        exact .inl ⟨x, _, kx, ky, l1, l2, fin_sh h s (.bl _)⟩
      | tuple ys =>
        cases ex
        exact .inr ⟨x, _, kx, ky, l1, l2, fin_sh h s (.bl _)⟩
      | _ => cases ex
    · cases eb
/-- truth -/
theorem truV_of {K : PySem.W.Frag} {k : Bool} (hx : RpB K H Hs v x) (e : Sub Hs H) (h : truthD x = some k) : TruV K v H k := by
  cases x with
  | none =>
    rcases hx with hx | ⟨_, _, _, z, _⟩
    · cases hx
      cases h
      rfl
    · cases z
  | bool b =>
    rw [rpB_bool hx]
    cases h
    rfl
  | int i =>
    rw [rpB_int hx]
    cases h
    rfl
  | str z =>
    rw [rpB_str hx]
    simp only [truthD] at h
    split at h
    · rename_i hl
      cases h
      exact ⟨okLen_le hl, rfl⟩
    · cases h
  | list xs =>
    obtain ⟨a, vs, rfl, h1, h2⟩ := rpB_list hx e
    cases h
    refine .inl ⟨vs, SqL.of h1, ?_⟩
    cases h2 <;> rfl
  | tuple xs =>
    obtain ⟨a, vs, rfl, h1, h2, _⟩ := rpB_tup hx e
    cases h
    refine .inr (.inl ⟨vs, h1, ?_⟩)
    cases h2 <;> rfl
  | dict _ => cases h
end
end Dv

set_option Elab.async false
set_option linter.all false
set_option maxRecDepth 100000
set_option maxHeartbeats 2000000
/-! Dv7: the forms of expressions, one by one. -/
namespace Dv
open PySem PySem.Spec PyProof.Rows L2
section
variable {X : Cx} {c : Fc} {W : WX} {Φ : Orc} {g : Sig} {env : Env} {pend : List (Addr × List D)} {τ : Tp} {σ : L2.St} {H H' Hs Hs' : Hp} {v u : V} {x y : D}
/-! ### sharing several -/
theorem VasOk.sub : ∀ {vs : List V} {xs : List Va}, VasOk c Hs vs xs → Sub Hs Hs' → VasOk c Hs' vs xs
  | [], [], _, _ => trivial
  | _ :: _, _ :: _, h, e => ⟨h.1.sub e, VasOk.sub h.2 e⟩
theorem shareAll_ok : ∀ {rs : List Rv} {vs : List V} {env : Env} {xs : List Va} {env' : Env} {Hs : Hp}, Stt c env pend τ σ H Hs → RvBs c σ Hs vs rs → shareAll env rs = some (xs, env') → ∃ Hs', Sub Hs Hs' ∧ Stt c env' pend τ σ H Hs' ∧ VasOk c Hs' vs xs
  | [], _, env, xs, env', Hs, s, b, h => by
    cases b
    cases h
    exact ⟨Hs, Sub.refl _, s, trivial⟩
  | r :: rs, _, env, xs, env', Hs, s, b, h => by
    cases b with
    | cons b1 b2 =>
      simp only [shareAll, Option.bind_eq_some_iff, Option.map_eq_some_iff] at h
      obtain ⟨p, hp, q, hq, e⟩ := h
      cases e
      obtain ⟨Hs1, e1, s1, k1⟩ := share_ok s b1 hp
      obtain ⟨Hs2, e2, s2, k2⟩ := shareAll_ok s1 (b2.sub e1) hq
      exact ⟨Hs2, e1.trans e2, s2, k1.sub e2, k2⟩
theorem dats_ok : ∀ {xs : List Va} {vs : List V} {ds : List D}, VasOk c Hs vs xs → dats xs = some ds → RpAll c.K Hs vs ds
  | [], [], ds, _, h => by
    cases h
    exact .nil
  | .d x :: xs, v :: vs, ds, k, h => by
    simp only [dats, Option.map_eq_some_iff] at h
    obtain ⟨r, hr, e⟩ := h
    cases e
    exact .cons k.1 (dats_ok k.2 hr)
  | .tp :: _, _ :: _, ds, k, h => by cases h
  | [], _ :: _, _, k, _ => k.elim
  | _ :: _, [], _, k, _ => k.elim
theorem lookDs_ok (s : Stt c env pend τ σ H Hs) : ∀ {rs : List Rv} {vs : List V} {ds : List D}, RvBs c σ Hs vs rs → lookDs env rs = some ds → ∃ k : vs.length = ds.length, ∀ (i : Nat) (v : V) (x : D), vs[i]? = some v → ds[i]? = some x → RpB c.K H Hs v x
  | [], _, ds, b, h => by
    cases b
    cases h
    exact ⟨rfl, fun i v x e => by simp at e⟩
  | r :: rs, _, ds, b, h => by
    cases b with
    | cons b1 b2 =>
      simp only [lookDs, Option.bind_eq_some_iff, Option.map_eq_some_iff] at h
      obtain ⟨x, hx, q, hq, e⟩ := h
      cases e
      obtain ⟨l, k⟩ := lookDs_ok s b2 hq
      refine ⟨congrArg (· + 1) l, fun i v y e1 e2 => ?_⟩
      cases i with
      | zero =>
        cases e1
        cases e2
        exact look_ok s b1 hx
      | succ i => exact k i v y e1 e2
/-! ### constants and names -/
theorem c_var (G : Good X W c Φ g) {i : Nat} {n : Str} {pos : Pos} (hN : X.N[i]? = some n) (hv : Vis X.env.scope n) (hd : (n == ("__debug__" : Str)) = false) (hcd : (n == ("__classdict__" : Str)) = false) : PE X (.Name n pos) (tE Φ c W (.var i)) := by
  refine pe_imp (pe_var (i := i) hN hv hd hcd) fun σ H Q ⟨env, pend, τ, Hs, s, h⟩ => ?_
  simp only [ev] at h
  split at h
  · rename_i z hz
    have q := s.slot i _ hz
    cases z with
    | sh z =>
      obtain ⟨u, q1, q2⟩ := q
      exact ⟨u, q1, h u H Hs (Sub.refl _) ⟨s, q1⟩⟩
    | own xs =>
      obtain ⟨a, q1, q2⟩ := q
      exact ⟨.ref a, q1, h _ H Hs (Sub.refl _) ⟨s, q1⟩⟩
  · exact h.elim
theorem c_cI {i : Int} {j pos} : PE X (.Constant (.int i) j pos) (tE Φ c W (.cI i)) := pe_imp pe_int fun σ H Q ⟨env, pend, τ, Hs, s, h⟩ => fin_sh h s (.int i)
theorem c_cB {i : Bool} {j pos} : PE X (.Constant (.bool i) j pos) (tE Φ c W (.cB i)) := pe_imp pe_bl fun σ H Q ⟨env, pend, τ, Hs, s, h⟩ => fin_sh h s (.bl i)
theorem c_cN {j pos} : PE X (.Constant .none j pos) (tE Φ c W .cN) := pe_imp pe_non fun σ H Q ⟨env, pend, τ, Hs, s, h⟩ => fin_sh h s .non
theorem c_cS {z : Str} {j pos} : PE X (.Constant (.str z) j pos) (tE Φ c W (.cS z)) := pe_imp pe_str fun σ H Q ⟨env, pend, τ, Hs, s, h⟩ => fin_sh h s (.str z)
theorem c_glo (G : Good X W c Φ g) {n : Str} {d : D} {pos : Pos} (hg : Gl X n) (hc : (n, d) ∈ g.cst) (hd : (n == ("__debug__" : Str)) = false) : PE X (.Name n pos) (tE Φ c W (.glo n d)) := by
  obtain ⟨u, v, h1, h2, h3⟩ := G.cst _ hc
  exact pe_imp (pe_glob hg h1 h2 hd) fun σ H Q ⟨env, pend, τ, Hs, s, h⟩ => fin_sh h s (show Rp c.K Hs v d by rw [← G.hK]; exact h3 Hs)
/-! ### one place -/
theorem c_neg {a : E} {a' : Expr} {pos : Pos} (ha : PE X a' (tE Φ c W a)) : PE X (.UnaryOp .USub a' pos) (tE Φ c W (.neg a)) := by
  refine pe_imp (pe_un un_neg ha) fun σ H Q ⟨env, pend, τ, Hs, s, h⟩ => ⟨env, pend, τ, Hs, s, opnd h fun rv env1 τ1 v H1 Hs1 e1 s1 b1 h1 => ?_⟩
  split at h1
  · rename_i i hi
    exact ⟨i, rpB_int (look_ok s1 b1 hi), fin_sh h1 s1 (.int _)⟩
  · exact h1.elim
theorem c_not (G : Good X W c Φ g) {a : E} {a' : Expr} {pos : Pos} (ha : PE X a' (tE Φ c W a)) : PE X (.UnaryOp .Not a' pos) (tE Φ c W (.not_ a)) := by
  refine pe_imp (pe_notT ha) fun σ H Q ⟨env, pend, τ, Hs, s, h⟩ => ⟨env, pend, τ, Hs, s, opnd h fun rv env1 τ1 v H1 Hs1 e1 s1 b1 h1 => ?_⟩
  obtain ⟨k, ek, h2⟩ := prd_of h1
  obtain ⟨x, ex, ek⟩ := Option.bind_eq_some_iff.mp ek
  exact ⟨k, (by rw [G.hK]; exact truV_of (look_ok s1 b1 ex) s1.core.sub ek), fin_sh h2 s1 (.bl _)⟩
theorem isNone_v (h : RpB c.K H Hs v x) : decide (v = V.non) = isNone x := by
  cases x with
  | none =>
    rcases h with h | ⟨_, _, _, e, _⟩
    · cases h
      rfl
    · cases e
  | list xs =>
    rcases h with h | ⟨_, _, _, _, rfl, _⟩
    · cases h
      rfl
    · rfl
  | _ =>
    rcases h with h | ⟨_, _, _, e, _⟩
    · cases h <;> rfl
    · cases e
theorem c_isN {a : E} {a' : Expr} {j : Nat} {p pos : Pos} (ha : PE X a' (tE Φ c W a)) : PE X (.Compare a' [.Is] [.Constant .none j p] pos) (tE Φ c W (.isN a)) := by
  refine pe_imp (pe_cmp (pc_isN ha) rfl) fun σ H Q ⟨env, pend, τ, Hs, s, h⟩ => ⟨env, pend, τ, Hs, s, opnd h fun rv env1 τ1 v H1 Hs1 e1 s1 b1 h1 => ?_⟩
  obtain ⟨x, ex, h2⟩ := prd_of h1
  rw [isNone_v (look_ok s1 b1 ex)]
  exact fin_sh h2 s1 (.bl _)
theorem c_notN {a : E} {a' : Expr} {j : Nat} {p pos : Pos} (ha : PE X a' (tE Φ c W a)) : PE X (.Compare a' [.IsNot] [.Constant .none j p] pos) (tE Φ c W (.notN a)) := by
  refine pe_imp (pe_cmp (pc_notN ha) rfl) fun σ H Q ⟨env, pend, τ, Hs, s, h⟩ => ⟨env, pend, τ, Hs, s, opnd h fun rv env1 τ1 v H1 Hs1 e1 s1 b1 h1 => ?_⟩
  obtain ⟨x, ex, h2⟩ := prd_of h1
  rw [isNone_v (look_ok s1 b1 ex)]
  exact fin_sh h2 s1 (.bl _)
/-! ### two places -/
theorem c_bin (G : Good X W c Φ g) {o : BO} {a b : E} {a' b' : Expr} {pos : Pos} (ha : PE X a' (tE Φ c W a)) (hb : PE X b' (tE Φ c W b)) : PE X (.BinOp a' (opOf o) b' pos) (tE Φ c W (.bin o a b)) := by
  obtain ⟨r, hr, hr2⟩ := bin_ok G o
  refine pe_imp (pe_op hr ha hb) fun σ H Q ⟨env, pend, τ, Hs, s, h⟩ => ⟨env, pend, τ, Hs, s, opnd h fun rv env1 τ1 v H1 Hs1 e1 s1 b1 h1 => ⟨env1, pend, τ1, Hs1, s1, opnd h1 fun qv env2 τ2 u H2 Hs2 e2 s2 b2 h2 => ?_⟩⟩
  obtain ⟨x, ex, h3⟩ := prd_of h2
  obtain ⟨y, ey, h4⟩ := prd_of h3
  obtain ⟨z, ez, h5⟩ := prd_of h4
  exact hr2 W env2 pend τ2 σ H2 Hs2 x y z v u Q s2 (look_ok s2 (b1.sub e2) ex) (look_ok s2 b2 ey) ez h5
theorem prd_boolRv {z : Bool} {Q : VK} (h : PRd c W σ (PV c pend σ) Hs (.ok (.sh (.d (.bool z))) env τ) Q) : PRd c W σ (PV c pend σ) Hs (.ok (boolRv z) env τ) Q := h
theorem cmp_step (G : Good X W c Φ g) {o : CO} {a b : E} {a' b' : Expr} : ∃ r : R2, OpR X (compareOp (copOf o)) r ∧ ∀ σ H Q, tE Φ c W (.cmp o a b) σ H Q → tOp r (tE Φ c W a) (tE Φ c W b) σ H Q := by
  obtain ⟨r, hr, hr2⟩ := cmp_ok G o
  refine ⟨r, hr, fun σ H Q ⟨env, pend, τ, Hs, s, h⟩ => ⟨env, pend, τ, Hs, s, opnd h fun rv env1 τ1 v H1 Hs1 e1 s1 b1 h1 => ⟨env1, pend, τ1, Hs1, s1, opnd h1 fun qv env2 τ2 u H2 Hs2 e2 s2 b2 h2 => ?_⟩⟩⟩
  obtain ⟨x, ex, h3⟩ := prd_of h2
  obtain ⟨y, ey, h4⟩ := prd_of h3
  obtain ⟨z, ez, h5⟩ := prd_of h4
  exact hr2 W env2 pend τ2 σ H2 Hs2 x y (boolRv z) v u Q s2 (look_ok s2 (b1.sub e2) ex) (look_ok s2 b2 ey) (congrArg (Option.map boolRv) ez) h5
theorem c_cmp (G : Good X W c Φ g) {o : CO} {a b : E} {a' b' : Expr} {pos : Pos} (ha : PE X a' (tE Φ c W a)) (hb : PE X b' (tE Φ c W b)) (hm : behindInMarks (copOf o) b' = false) : PE X (.Compare a' [copOf o] [b'] pos) (tE Φ c W (.cmp o a b)) := by
  obtain ⟨r, hr, hi⟩ := cmp_step (a' := a') (b' := b') G (o := o) (a := a) (b := b)
  exact pe_imp (pe_cmpR hr ha hb hm) hi
theorem c_and (G : Good X W c Φ g) {a b : E} {a' b' : Expr} {r : List Expr} {pos : Pos} (ha : PE X a' (tE Φ c W a)) (hb : PE X (.BoolOp .And (b' :: r) pos) (tE Φ c W b)) : PE X (.BoolOp .And (a' :: b' :: r) pos) (tE Φ c W (.and_ a b)) := by
  refine pe_imp (pe_andT ha hb) fun σ H Q ⟨env, pend, τ, Hs, s, h⟩ => ⟨env, pend, τ, Hs, s, opnd h fun rv env1 τ1 v H1 Hs1 e1 s1 b1 h1 => ?_⟩
  obtain ⟨k, ek, h2⟩ := prd_of h1
  obtain ⟨x, ex, ek⟩ := Option.bind_eq_some_iff.mp ek
  refine ⟨k, (by rw [G.hK]; exact truV_of (look_ok s1 b1 ex) s1.core.sub ek), ?_⟩
  cases k with
  | true => exact iteT ⟨env1, pend, τ1, Hs1, s1, h2⟩
  | false =>
    refine iteF (h2 v H1 Hs1 (Sub.refl _) ?_)
    cases hz : unfr rv with
    | fr _ => rw [hz] at b1; exact b1.elim
    | sh _ => rw [hz] at b1; exact ⟨s1, b1⟩
    | br _ => rw [hz] at b1; exact ⟨s1, b1⟩
theorem c_or (G : Good X W c Φ g) {a b : E} {a' b' : Expr} {r : List Expr} {pos : Pos} (ha : PE X a' (tE Φ c W a)) (hb : PE X (.BoolOp .Or (b' :: r) pos) (tE Φ c W b)) : PE X (.BoolOp .Or (a' :: b' :: r) pos) (tE Φ c W (.or_ a b)) := by
  refine pe_imp (pe_orT ha hb) fun σ H Q ⟨env, pend, τ, Hs, s, h⟩ => ⟨env, pend, τ, Hs, s, opnd h fun rv env1 τ1 v H1 Hs1 e1 s1 b1 h1 => ?_⟩
  obtain ⟨k, ek, h2⟩ := prd_of h1
  obtain ⟨x, ex, ek⟩ := Option.bind_eq_some_iff.mp ek
  refine ⟨k, (by rw [G.hK]; exact truV_of (look_ok s1 b1 ex) s1.core.sub ek), ?_⟩
  cases k with
  | false => exact iteF ⟨env1, pend, τ1, Hs1, s1, h2⟩
  | true =>
    refine iteT (h2 v H1 Hs1 (Sub.refl _) ?_)
    cases hz : unfr rv with
    | fr _ => rw [hz] at b1; exact b1.elim
    | sh _ => rw [hz] at b1; exact ⟨s1, b1⟩
    | br _ => rw [hz] at b1; exact ⟨s1, b1⟩
theorem chain_step (G : Good X W c Φ g) {o o' : CO} {a b d : E} : ∃ r r' : R2, OpR X (compareOp (copOf o)) r ∧ OpR X (compareOp (copOf o')) r' ∧
    (∀ σ H Q, tE Φ c W (.chain o o' a b d) σ H Q → tChain r r' (tE Φ c W a) (tE Φ c W b) (tE Φ c W d) σ H Q) ∧
    (∀ σ H Q, tT Φ c W (.chain o o' a b d) σ H Q → tTest (tChain r r' (tE Φ c W a) (tE Φ c W b) (tE Φ c W d)) σ H Q) := by
  obtain ⟨r, hr, hr2⟩ := cmp_ok G o
  obtain ⟨r', hr', hr2'⟩ := cmp_ok G o'
  refine ⟨r, r', hr, hr', fun σ H Q ⟨env, pend, τ, Hs, s, h⟩ => ⟨env, pend, τ, Hs, s, opnd h fun rv env1 τ1 v H1 Hs1 e1 s1 b1 h1 => ⟨env1, pend, τ1, Hs1, s1, opnd h1 fun qv env2 τ2 u H2 Hs2 e2 s2 b2 h2 => ?_⟩⟩, fun σ H Q ⟨env, pend, τ, Hs, s, h⟩ => ⟨env, pend, τ, Hs, s, opnd h fun rv env1 τ1 v H1 Hs1 e1 s1 b1 h1 => ⟨env1, pend, τ1, Hs1, s1, opnd h1 fun qv env2 τ2 u H2 Hs2 e2 s2 b2 h2 => ?_⟩⟩⟩
  · obtain ⟨x, ex, h3⟩ := prd_of h2
    obtain ⟨y, ey, h4⟩ := prd_of h3
    obtain ⟨z, ez, h5⟩ := prd_of h4
    refine hr2 W env2 pend τ2 σ H2 Hs2 x y (boolRv z) v u _ s2 (look_ok s2 (b1.sub e2) ex) (look_ok s2 b2 ey) (congrArg (Option.map boolRv) ez) fun w H3 Hs3 e3 p3 => ?_
    obtain ⟨s3, k3⟩ := p3
    cases k3
    refine ⟨z, rfl, ?_⟩
    cases z with
    | false => exact iteF (fin_sh (PRd.mono (r := .ok _ _ _) h5 e3) s3 (.bl _))
    | true =>
      refine iteT ⟨env2, pend, τ2, Hs3, s3, opnd (PRd.mono h5 e3) fun pv env4 τ4 u4 H4 Hs4 e4 s4 b4 h6 => ?_⟩
      obtain ⟨y', ey', h7⟩ := prd_of h6
      obtain ⟨t, et, h8⟩ := prd_of h7
      obtain ⟨z', ez', h9⟩ := prd_of h8
      exact hr2' W env4 pend τ4 σ H4 Hs4 y' t (boolRv z') u u4 Q s4 (look_ok s4 (b2.sub (e3.trans e4)) ey') (look_ok s4 b4 et) (congrArg (Option.map boolRv) ez') h9
  · obtain ⟨x, ex, h3⟩ := prd_of h2
    obtain ⟨y, ey, h4⟩ := prd_of h3
    obtain ⟨z, ez, h5⟩ := prd_of h4
    refine hr2 W env2 pend τ2 σ H2 Hs2 x y (boolRv z) v u _ s2 (look_ok s2 (b1.sub e2) ex) (look_ok s2 b2 ey) (congrArg (Option.map boolRv) ez) fun w H3 Hs3 e3 p3 => ?_
    obtain ⟨s3, k3⟩ := p3
    cases k3
    refine ⟨z, rfl, ?_⟩
    cases z with
    | false => exact iteF ⟨false, rfl, h5 false H3 Hs3 e3 ⟨rfl, s3⟩⟩
    | true =>
      refine iteT ⟨env2, pend, τ2, Hs3, s3, opnd (PRd.mono h5 e3) fun pv env4 τ4 u4 H4 Hs4 e4 s4 b4 h6 => ?_⟩
      obtain ⟨y', ey', h7⟩ := prd_of h6
      obtain ⟨t, et, h8⟩ := prd_of h7
      obtain ⟨z', ez', h9⟩ := prd_of h8
      refine hr2' W env4 pend τ4 σ H4 Hs4 y' t (boolRv z') u u4 _ s4 (look_ok s4 (b2.sub (e3.trans e4)) ey') (look_ok s4 b4 et) (congrArg (Option.map boolRv) ez') fun w5 H5 Hs5 e5 p5 => ?_
      obtain ⟨s5, k5⟩ := p5
      cases k5
      exact ⟨z', rfl, h9 z' H5 Hs5 e5 ⟨rfl, s5⟩⟩
theorem c_chain (G : Good X W c Φ g) {o o' : CO} {a b d : E} {a' b' d' : Expr} {pos : Pos} (ha : PE X a' (tE Φ c W a)) (hb : PE X b' (tE Φ c W b)) (hd : PE X d' (tE Φ c W d)) (hm : lastMarks [copOf o, copOf o'] [b', d'] = false) :
    PE X (.Compare a' [copOf o, copOf o'] [b', d'] pos) (tE Φ c W (.chain o o' a b d)) := by
  obtain ⟨r, r', hr, hr', hi, _⟩ := chain_step G (o := o) (o' := o') (a := a) (b := b) (d := d)
  exact pe_imp (pe_chain hr hr' ha hb hd hm) hi
theorem c_chainT (G : Good X W c Φ g) {o o' : CO} {a b d : E} {a' b' d' : Expr} {pos : Pos} (ha : PE X a' (tE Φ c W a)) (hb : PE X b' (tE Φ c W b)) (hd : PE X d' (tE Φ c W d)) (hm : lastMarks [copOf o, copOf o'] [b', d'] = false) :
    PT X (.Compare a' [copOf o, copOf o'] [b', d'] pos) (tT Φ c W (.chain o o' a b d)) := by
  obtain ⟨r, r', hr, hr', _, hi⟩ := chain_step G (o := o) (o' := o') (a := a) (b := b) (d := d)
  exact pt_imp (pt_chain hr hr' ha hb hd hm) hi
theorem c_ite {t : T} {a b : E} {t' a' b' : Expr} {pos : Pos} (ht : PT X t' (tT Φ c W t)) (ha : PE X a' (tE Φ c W a)) (hb : PE X b' (tE Φ c W b)) : PE X (.IfExp t' a' b' pos) (tE Φ c W (.ite t a b)) := by
  refine pe_imp (pe_ifExp ht ha hb) fun σ H Q ⟨env, pend, τ, Hs, s, h⟩ => ⟨env, pend, τ, Hs, s, prd_bind h fun k env1 τ1 k' H1 Hs1 e1 p1 h1 => ?_⟩
  obtain ⟨rfl, s1⟩ := p1
  cases k' with
  | true => exact iteT ⟨env1, pend, τ1, Hs1, s1, h1⟩
  | false => exact iteF ⟨env1, pend, τ1, Hs1, s1, h1⟩
/-! ### tests -/
theorem t_val (G : Good X W c Φ g) {a : E} {a' : Expr} (ha : PE X a' (tE Φ c W a)) (hp : ∀ whole, isTrue a' X.env whole = (do let v ← whole; standAt a'.pos; holding [v] (truthy v))) : PT X a' (tT Φ c W (.val a)) := by
  refine pt_imp (pt_truth ha hp) fun σ H Q ⟨env, pend, τ, Hs, s, h⟩ => ⟨env, pend, τ, Hs, s, opnd h fun rv env1 τ1 v H1 Hs1 e1 s1 b1 h1 => ?_⟩
  obtain ⟨k, ek, h2⟩ := prd_of h1
  obtain ⟨x, ex, ek⟩ := Option.bind_eq_some_iff.mp ek
  exact ⟨k, (by rw [G.hK]; exact truV_of (look_ok s1 b1 ex) s1.core.sub ek), h2 k H1 Hs1 (Sub.refl _) ⟨rfl, s1⟩⟩
/-- a test of a truth value -/
theorem tT_bool {a : E} {σ : L2.St} {H : Hp} {Q : Bool → Hp → Prop} (hb : ∀ env τ rv env' τ', ev Φ a env τ = .ok rv env' τ' → ∃ z, rv = .sh (.d (.bool z))) (h : tT Φ c W (.val a) σ H Q) : tE Φ c W a σ H fun x H1 => ∃ k, x = .bl k ∧ Q k H1 := by
  obtain ⟨env, pend, τ, Hs, s, h⟩ := h
  refine ⟨env, pend, τ, Hs, s, ?_⟩
  simp only [evT] at h
  cases hr : ev Φ a env τ with
  | ok rv env' τ' =>
    obtain ⟨z, rfl⟩ := hb _ _ _ _ _ hr
    rw [hr] at h
    intro v H' Hs' e p
    obtain ⟨s', k⟩ := p
    cases k
    exact ⟨z, rfl, h z H' Hs' e ⟨rfl, s'⟩⟩
  | err cl τ' =>
    rw [hr] at h
    exact h
  | stuck =>
    rw [hr] at h
    exact h.elim
theorem bind_ok {α β : Type} {r : R α} {f : α → Env → Tp → R β} {b : β} {e : Env} {t : Tp} (h : r.bind f = .ok b e t) : ∃ a e' t', r = .ok a e' t' ∧ f a e' t' = .ok b e t := by
  cases r with
  | ok a e' t' => exact ⟨a, e', t', rfl, h⟩
  | err _ _ => cases h
  | stuck => cases h
theorem of_ok {α β : Type} {o : Option α} {f : α → R β} {b : β} {e : Env} {t : Tp} (h : of? o f = .ok b e t) : ∃ a, o = some a ∧ f a = .ok b e t := by
  cases o with
  | some a => exact ⟨a, rfl, h⟩
  | none => cases h
theorem cmp_bool {o : CO} {a b : E} : ∀ env τ rv env' τ', ev Φ (.cmp o a b) env τ = .ok rv env' τ' → ∃ z, rv = .sh (.d (.bool z)) := fun env τ rv env' τ' h => by
  simp only [ev] at h
  obtain ⟨_, _, _, _, h⟩ := bind_ok h
  obtain ⟨_, _, _, _, h⟩ := bind_ok h
  obtain ⟨_, _, h⟩ := of_ok h
  obtain ⟨_, _, h⟩ := of_ok h
  obtain ⟨z, _, h⟩ := of_ok h
  cases h
  exact ⟨z, rfl⟩
theorem isN_bool {a : E} : ∀ env τ rv env' τ', ev Φ (.isN a) env τ = .ok rv env' τ' → ∃ z, rv = .sh (.d (.bool z)) := fun env τ rv env' τ' h => by
  simp only [ev] at h
  obtain ⟨_, _, _, _, h⟩ := bind_ok h
  obtain ⟨_, _, h⟩ := of_ok h
  cases h
  exact ⟨_, rfl⟩
theorem notN_bool {a : E} : ∀ env τ rv env' τ', ev Φ (.notN a) env τ = .ok rv env' τ' → ∃ z, rv = .sh (.d (.bool z)) := fun env τ rv env' τ' h => by
  simp only [ev] at h
  obtain ⟨_, _, _, _, h⟩ := bind_ok h
  obtain ⟨_, _, h⟩ := of_ok h
  cases h
  exact ⟨_, rfl⟩
theorem t_cmp (G : Good X W c Φ g) {o : CO} {a b : E} {a' b' : Expr} {pos : Pos} (ha : PE X a' (tE Φ c W a)) (hb : PE X b' (tE Φ c W b)) (hm : behindInMarks (copOf o) b' = false) : PT X (.Compare a' [copOf o] [b'] pos) (tT Φ c W (.val (.cmp o a b))) := by
  obtain ⟨r, hr, hi⟩ := cmp_step (a' := a') (b' := b') G (o := o) (a := a) (b := b)
  exact pt_imp (pt_cmpR hr ha hb hm) fun σ H Q h => hi σ H _ (tT_bool cmp_bool h)
theorem t_isN {a : E} {a' : Expr} {j : Nat} {p pos : Pos} (ha : PE X a' (tE Φ c W a)) : PT X (.Compare a' [.Is] [.Constant .none j p] pos) (tT Φ c W (.val (.isN a))) := by
  refine pt_imp (pt_cmp (pc_isN ha) rfl) fun σ H Q h0 => ?_
  obtain ⟨env, pend, τ, Hs, s, h⟩ := tT_bool isN_bool h0
  refine ⟨env, pend, τ, Hs, s, opnd h fun rv env1 τ1 v H1 Hs1 e1 s1 b1 h1 => ?_⟩
  obtain ⟨x, ex, h2⟩ := prd_of h1
  rw [isNone_v (look_ok s1 b1 ex)]
  exact fin_sh h2 s1 (.bl _)
theorem t_notN {a : E} {a' : Expr} {j : Nat} {p pos : Pos} (ha : PE X a' (tE Φ c W a)) : PT X (.Compare a' [.IsNot] [.Constant .none j p] pos) (tT Φ c W (.val (.notN a))) := by
  refine pt_imp (pt_cmp (pc_notN ha) rfl) fun σ H Q h0 => ?_
  obtain ⟨env, pend, τ, Hs, s, h⟩ := tT_bool notN_bool h0
  refine ⟨env, pend, τ, Hs, s, opnd h fun rv env1 τ1 v H1 Hs1 e1 s1 b1 h1 => ?_⟩
  obtain ⟨x, ex, h2⟩ := prd_of h1
  rw [isNone_v (look_ok s1 b1 ex)]
  exact fin_sh h2 s1 (.bl _)
theorem t_and {a b : T} {a' b' : Expr} {r : List Expr} {pos : Pos} (ha : PT X a' (tT Φ c W a)) (hb : PW X (.BoolOp .And (b' :: r) pos) (tT Φ c W b)) : PW X (.BoolOp .And (a' :: b' :: r) pos) (tT Φ c W (.and_ a b)) := by
  refine pw_imp (pw_and ha hb) fun σ H Q ⟨env, pend, τ, Hs, s, h⟩ => ⟨env, pend, τ, Hs, s, prd_bind h fun k env1 τ1 k' H1 Hs1 e1 p1 h1 => ?_⟩
  obtain ⟨rfl, s1⟩ := p1
  cases k' with
  | true => exact iteT ⟨env1, pend, τ1, Hs1, s1, h1⟩
  | false => exact iteF (h1 false H1 Hs1 (Sub.refl _) ⟨rfl, s1⟩)
theorem t_or {a b : T} {a' b' : Expr} {r : List Expr} {pos : Pos} (ha : PT X a' (tT Φ c W a)) (hb : PW X (.BoolOp .Or (b' :: r) pos) (tT Φ c W b)) : PW X (.BoolOp .Or (a' :: b' :: r) pos) (tT Φ c W (.or_ a b)) := by
  refine pw_imp (pw_or ha hb) fun σ H Q ⟨env, pend, τ, Hs, s, h⟩ => ⟨env, pend, τ, Hs, s, prd_bind h fun k env1 τ1 k' H1 Hs1 e1 p1 h1 => ?_⟩
  obtain ⟨rfl, s1⟩ := p1
  cases k' with
  | false => exact iteF ⟨env1, pend, τ1, Hs1, s1, h1⟩
  | true => exact iteT (h1 true H1 Hs1 (Sub.refl _) ⟨rfl, s1⟩)
theorem t_not {a : T} {a' : Expr} {pos : Pos} (ha : PT X a' (tT Φ c W a)) : PT X (.UnaryOp .Not a' pos) (tT Φ c W (.not_ a)) := by
  refine pt_imp (pt_not ha) fun σ H Q ⟨env, pend, τ, Hs, s, h⟩ => ⟨env, pend, τ, Hs, s, prd_bind h fun k env1 τ1 k' H1 Hs1 e1 p1 h1 => ?_⟩
  obtain ⟨rfl, s1⟩ := p1
  exact h1 (!k') H1 Hs1 (Sub.refl _) ⟨rfl, s1⟩
end
end Dv

set_option Elab.async false
set_option linter.all false
set_option maxRecDepth 100000
set_option maxHeartbeats 2000000
/-! Dv8: arguments, displays, subscripts, calls. -/
namespace Dv
open PySem PySem.Spec PyProof.Rows L2
section
variable {X : Cx} {c : Fc} {W : WX} {Φ : Orc} {g : Sig} {env : Env} {pend : List (Addr × List D)} {τ : Tp} {σ : L2.St} {H H' Hs Hs' : Hp} {v u : V} {x y : D}
theorem a_nil : PA X [] (tA Φ c W .nil) := pa_imp pa_nil fun σ H Q ⟨env, pend, τ, Hs, s, h⟩ => h [] H Hs (Sub.refl _) ⟨s, .nil⟩
theorem a_cons {e : E} {es : Es} {e' : Expr} {es' : List Expr} (ha : PE X e' (tE Φ c W e)) (hr : PA X es' (tA Φ c W es)) (hs : starEach (e' :: es') X.env = (false, eval e' X.env) :: starEach es' X.env) : PA X (e' :: es') (tA Φ c W (.cons e es)) := by
  refine pa_imp (pa_cons ha hr hs) fun σ H Q ⟨env, pend, τ, Hs, s, h⟩ => ⟨env, pend, τ, Hs, s, opnd h fun rv env1 τ1 v H1 Hs1 e1 s1 b1 h1 => ⟨env1, pend, τ1, Hs1, s1, prd_bind h1 fun rs env2 τ2 vs H2 Hs2 e2 p2 h2 => ?_⟩⟩
  obtain ⟨s2, b2⟩ := p2
  exact h2 (v :: vs) H2 Hs2 (Sub.refl _) ⟨s2, .cons (b1.sub e2) b2⟩
/-- behind the arguments, all shared -/
theorem shr {α' β' : Type} {P' : α' → Env → Tp → β' → Hp → Hp → Prop} {r : R (List Rv)} {f : List Va → Env → Tp → R α'} {Q : β' → Hp → Prop} {Q' : List V → Hp → Prop} (h : PRd c W σ P' Hs (r.bind fun rs env τ => of? (shareAll env rs) fun p => f p.1 p.2 τ) Q)
    (k : ∀ xs env τ vs H' Hs', Sub Hs Hs' → Stt c env pend τ σ H' Hs' → VasOk c Hs' vs xs → PRd c W σ P' Hs' (f xs env τ) Q → Q' vs H') : PRd c W σ (PAs c pend σ) Hs r Q' :=
  prd_bind h fun rs env τ vs H' Hs1 e p q => by
    obtain ⟨s1, b1⟩ := p
    obtain ⟨p, hp, q⟩ := prd_of q
    obtain ⟨Hs2, e2, s2, k2⟩ := shareAll_ok s1 b1 hp
    exact k p.1 p.2 τ vs H' Hs2 (e.trans e2) s2 k2 (q.mono e2)
theorem c_tup {xs : Es} {es : List Expr} {j : Nat} {pos : Pos} (ha : PA X es (tA Φ c W xs)) : PE X (.Tuple es j pos) (tE Φ c W (.tup xs)) := by
  refine pe_imp (pe_tup ha) fun σ H Q ⟨env, pend, τ, Hs, s, h⟩ => ⟨env, pend, τ, Hs, s, ?_⟩
  refine shr (f := fun xs env τ => of? (dats xs) fun ds => if okLen ds.length then R.ok (Rv.sh (Va.d (PyData.tuple ds))) env τ else R.stuck) h fun xs env τ vs H1 Hs1 e1 s1 k1 h1 => ?_
  obtain ⟨ds, hd, h2⟩ := prd_of h1
  have r := dats_ok k1 hd
  split at h2
  · rename_i hl
    exact ⟨by rw [r.length]; exact okLen_le hl, fun p n => fin_tup h2 s1 n r⟩
  · exact h2.elim
theorem c_lst {xs : Es} {es : List Expr} {pos : Pos} (ha : PA X es (tA Φ c W xs)) : PE X (.List es pos) (tE Φ c W (.lst xs)) := by
  refine pe_imp (pe_lst ha) fun σ H Q ⟨env, pend, τ, Hs, s, h⟩ => ⟨env, pend, τ, Hs, s, ?_⟩
  refine shr (f := fun xs env τ => of? (dats xs) fun ds => if okLen ds.length then R.ok (Rv.fr ds) env τ else R.stuck) h fun xs env τ vs H1 Hs1 e1 s1 k1 h1 => ?_
  obtain ⟨ds, hd, h2⟩ := prd_of h1
  have r := dats_ok k1 hd
  split at h2
  · rename_i hl
    exact ⟨by rw [r.length]; exact okLen_le hl, fun p n => fin_fr h2 s1 n r⟩
  · exact h2.elim
/-! ### subscripts -/
theorem atI_rp {K : PySem.W.Frag} {vs : List V} {ds : List D} {i : Int} {z : D} (r : RpAll K Hs vs ds) (h : atI ds i = some z) : ∃ v, atI vs i = some v ∧ Rp K Hs v z := by
  unfold atI at h
  obtain ⟨j, hj, hz⟩ := Option.bind_eq_some_iff.mp h
  obtain ⟨v, hv, hr⟩ := r.get hz
  refine ⟨v, ?_, hr⟩
  unfold atI
  rw [r.length, hj]
  exact hv
theorem c_idx (G : Good X W c Φ g) {a i : E} {a' i' : Expr} {pos : Pos} (ha : PE X a' (tE Φ c W a)) (hi : PE X i' (tE Φ c W i)) (hp : PlainIx i') : PE X (.Subscript a' i' pos) (tE Φ c W (.idx a i)) := by
  refine pe_imp (pe_ix (IxR.or ix_list ix_tup) ha hi hp) fun σ H Q ⟨env, pend, τ, Hs, s, h⟩ => ⟨env, pend, τ, Hs, s, opnd h fun rv env1 τ1 v H1 Hs1 e1 s1 b1 h1 => ⟨env1, pend, τ1, Hs1, s1, opnd h1 fun qv env2 τ2 u H2 Hs2 e2 s2 b2 h2 => ?_⟩⟩
  obtain ⟨x, ex, h3⟩ := prd_of h2
  obtain ⟨y, ey, h4⟩ := prd_of h3
  obtain ⟨z, ez, h5⟩ := prd_of h4
  have kx := look_ok s2 (b1.sub e2) ex
  have ky := look_ok s2 b2 ey
  unfold idxD at ez
  split at ez
  all_goals first
    | (cases ez; done)
    | skip
  · obtain ⟨p, vs, rfl, q1, q2⟩ := rpB_list kx s2.core.sub
    obtain ⟨w, w1, w2⟩ := atI_rp q2 ez
    exact .inl ⟨p, vs, _, w, rfl, rpB_int ky, SqL.of q1, w1, fin_sh h5 s2 w2⟩
  · obtain ⟨p, vs, rfl, q1, q2, _⟩ := rpB_tup kx s2.core.sub
    obtain ⟨w, w1, w2⟩ := atI_rp q2 ez
    exact .inr ⟨p, vs, _, w, rfl, rpB_int ky, by rw [G.hK]; exact q1, w1, fin_sh h5 s2 w2⟩
theorem o_miss : PO X none (tO Φ c W .miss) := po_imp po_none fun σ H Q ⟨env, pend, τ, Hs, s, h⟩ => h none H Hs (Sub.refl _) ⟨rfl, s⟩
theorem o_val {a : E} {a' : Expr} (ha : PE X a' (tE Φ c W a)) : PO X (some a') (tO Φ c W (.val a)) := by
  refine po_imp (po_some ha) fun σ H Q ⟨env, pend, τ, Hs, s, h⟩ => ⟨env, pend, τ, Hs, s, opnd h fun rv env1 τ1 v H1 Hs1 e1 s1 b1 h1 => ?_⟩
  split at h1
  · rename_i i hi
    exact ⟨i, rpB_int (look_ok s1 b1 hi), h1 (some i) H1 Hs1 (Sub.refl _) ⟨rfl, s1⟩⟩
  · exact h1.elim
theorem cut_rp {K : PySem.W.Frag} {vs : List V} {ds : List D} (r : RpAll K Hs vs ds) (lo hi : Option Int) : RpAll K Hs (cutV vs lo hi) (cutD ds lo hi) := by
  unfold cutV cutD
  rw [r.length]
  exact RpAll.take _ (RpAll.drop _ r)
theorem c_sli (G : Good X W c Φ g) {a : E} {lo hi : O} {a' : Expr} {lo' hi' : Option Expr} {p2 pos : Pos} (ha : PE X a' (tE Φ c W a)) (hlo : PO X lo' (tO Φ c W lo)) (hhi : PO X hi' (tO Φ c W hi)) : PE X (.Subscript a' (.Slice lo' hi' none p2) pos) (tE Φ c W (.sli a lo hi)) := by
  refine pe_imp (pe_slice (SlR.or sl_list sl_tupA) ha hlo hhi) fun σ H Q ⟨env, pend, τ, Hs, s, h⟩ => ⟨env, pend, τ, Hs, s, opnd h fun rv env1 τ1 v H1 Hs1 e1 s1 b1 h1 => ⟨env1, pend, τ1, Hs1, s1, prd_bind h1 fun l env2 τ2 l' H2 Hs2 e2 p2 h2 => ?_⟩⟩
  obtain ⟨rfl, s2⟩ := p2
  refine ⟨env2, pend, τ2, Hs2, s2, prd_bind h2 fun r env3 τ3 r' H3 Hs3 e3 p3 h3 => ?_⟩
  obtain ⟨rfl, s3⟩ := p3
  obtain ⟨x, ex, h4⟩ := prd_of h3
  obtain ⟨z, ez, h5⟩ := prd_of h4
  have kx := look_ok s3 (b1.sub (e2.trans e3)) ex
  unfold sliD at ez
  split at ez
  all_goals first
    | (cases ez; done)
    | skip
  · cases ez
    obtain ⟨p, vs, rfl, q1, q2⟩ := rpB_list kx s3.core.sub
    exact .inl ⟨p, vs, rfl, SqL.of q1, fun p n => fin_fr h5 s3 n (cut_rp q2 _ _)⟩
  · cases ez
    obtain ⟨p, vs, rfl, q1, q2, q3⟩ := rpB_tup kx s3.core.sub
    refine .inr ⟨p, vs, rfl, by rw [G.hK]; exact q1, fun w => fin_sh h5 s3 ?_, fun _ p n => fin_tup h5 s3 n (cut_rp q2 _ _)⟩
    rw [q2.length] at w
    unfold cutD
    rw [w.1, w.2, List.drop_zero, Nat.sub_zero, List.take_length]
    exact q3
/-! ### calls -/
theorem Core.after {c : Fc} {τ τ' : Tp} (C : Core c τ H Hs) (K : Core ⟨c.K, c.mg, c.T, H, Hs, c.TL⟩ τ' H' Hs') : Core c τ' H' Hs' := by
  refine ⟨K.sub, fun a o e h1 h2 => K.keep a o (C.keep a o e h1 h2) h1 h2, C.old.trans K.old, fun a h => ?_, K.tape, K.nT, K.nt, K.tabs⟩
  rcases K.new a h with q | q
  · exact C.new a q
  · refine .inr fun o e nt => ?_
    by_cases ha : a = c.T
    · obtain ⟨x, _, t⟩ := C.tape
      rw [← ha] at t
      exact q _ t (fun ps z => nomatch z)
    · exact q o (C.keep a o e ha nt) nt
theorem OwnAt.after {c : Fc} {τ τ' : Tp} {a : Addr} {xs : List D} (C : Core c τ H Hs) (K : Core ⟨c.K, c.mg, c.T, H, Hs, c.TL⟩ τ' H' Hs') (w : OwnAt c H Hs a xs) : OwnAt c H' Hs' a xs := by
  obtain ⟨vs, h1, h2⟩ := w.at_
  have n : Hs' a = none := by
    cases q : Hs' a with
    | none => rfl
    | some o =>
      rcases K.new a (by rw [q]; exact fun z => nomatch z) with z | z
      · exact absurd w.nHs z
      · exact absurd (fun ps y => nomatch y) (z _ h1)
  exact ⟨⟨vs, K.keep a _ h1 w.nT (fun ps z => nomatch z), h2.sub K.old⟩, n, w.nH0, w.nT⟩
theorem Stt.after {τ' : Tp} (s : Stt c env pend τ σ H Hs) (K : Core ⟨c.K, c.mg, c.T, H, Hs, c.TL⟩ τ' H' Hs') : Stt c env pend τ' σ H' Hs' := by
  refine ⟨s.core.after K, s.len, fun i x hx => ?_, s.inj, fun p hp => (s.pnd p hp).after s.core K, s.pno, s.pdup⟩
  have h := s.slot i x hx
  cases x with
  | sh x =>
    obtain ⟨u, h1, h2⟩ := h
    exact ⟨u, h1, h2.sub K.old⟩
  | own ys =>
    obtain ⟨a, h1, h2⟩ := h
    exact ⟨a, h1, h2.after s.core K⟩
theorem Core.start {c : Fc} (C : Core c τ H Hs) : Core ⟨c.K, c.mg, c.T, H, Hs, c.TL⟩ τ H Hs :=
  ⟨C.sub, fun a o e _ _ => e, Sub.refl _, fun a h => .inl h, C.tape, C.nT, C.nt, C.tabs⟩
theorem VasOk.len : ∀ {vs : List V} {xs : List Va}, VasOk c Hs vs xs → vs.length = xs.length
  | [], [], _ => rfl
  | _ :: _, _ :: _, h => congrArg (· + 1) (VasOk.len h.2)
  | [], _ :: _, h => h.elim
  | _ :: _, [], h => h.elim
theorem VaOk.re {K : PySem.W.Frag} {mg : Str → Option Value} {H0 Hs0 : Hp} {TL : List (Addr × Str)} {x : Va} (hK : c.K = K) (h : VaOk c Hs v x) : VaOk ⟨K, mg, c.T, H0, Hs0, TL⟩ Hs v x := by
  subst hK
  cases x with
  | d x => exact h
  | tp => exact h
theorem VaOk.er {K : PySem.W.Frag} {mg : Str → Option Value} {H0 Hs0 : Hp} {TL : List (Addr × Str)} {x : Va} (hK : c.K = K) (h : VaOk ⟨K, mg, c.T, H0, Hs0, TL⟩ Hs v x) : VaOk c Hs v x := by
  subst hK
  cases x with
  | d x => exact h
  | tp => exact h
theorem VasOk.re {K : PySem.W.Frag} {mg : Str → Option Value} {H0 Hs0 : Hp} {TL : List (Addr × Str)} (hK : c.K = K) : ∀ {vs : List V} {xs : List Va}, VasOk c Hs vs xs → VasOk ⟨K, mg, c.T, H0, Hs0, TL⟩ Hs vs xs
  | [], [], _ => trivial
  | _ :: _, _ :: _, h => ⟨h.1.re hK, VasOk.re hK h.2⟩
/-- a def's promise, from the arguments' reading -/
theorem call_step (G : Good X W c Φ g) {f : Str} {n : Nat} {vs : List V} {xs : List Va} {Q : VK} (hn : vs.length = n) (s : Stt c env pend τ σ H Hs) (k : VasOk c Hs vs xs)
    (h : PRd c W σ (PV c pend σ) Hs (match Φ f xs τ with
      | .ok v τ' => .ok (.sh v) env τ'
      | .err cl τ' => .err cl τ'
      | .stuck => .stuck) Q) : spD X.K X.mg c.TL n (Φ f) vs H Q (WE W σ) := by
  refine ⟨hn, c.T, Hs, xs, τ, by rw [G.hK, G.hmg]; exact s.core.start, k.re G.hK.symm, ?_⟩
  cases hr : Φ f xs τ with
  | ok x τ' =>
    rw [hr] at h
    intro u H' Hs' K kv
    rw [G.hK, G.hmg] at K
    exact h u H' Hs' K.old ⟨s.after K, kv.er G.hK.symm⟩
  | err cl τ' =>
    rw [hr] at h
    intro C H' Hs' hC K
    rw [G.hmg] at hC
    rw [G.hK, G.hmg] at K
    exact h C H' Hs' hC (s.core.after K)
  | stuck =>
    rw [hr] at h
    exact h.elim
theorem c_call (G : Good X W c Φ g) {f : Str} {n : Nat} {xs : Es} {e : Expr} {es : List Expr} {p pos : Pos} (hf : (f, n) ∈ g.fns) (hl : (e :: es).length = n) (hgl : Gl X f) (ha : PA X (e :: es) (tA Φ c W xs)) (hlen : ∀ env τ rs env' τ', evA Φ xs env τ = .ok rs env' τ' → rs.length = n)
    (hdb : (f == ("__debug__" : Str)) = false) (he : starEach (e :: es) X.env = (false, eval e X.env) :: starEach es X.env) (hpl : (backTo pos (starEach es X.env)).any (·.1) = false) :
    PE X (.Call (.Name f p) (e :: es) [] pos) (tE Φ c W (.call f xs)) := by
  obtain ⟨a, fd, ps, k, hm, hk, hb, hr, F⟩ := (G.fns _ hf).ex
  refine pe_imp (pe_callS F hr hgl hm hk hb (fun σ => passAt G.tk σ) ha hdb he hpl) fun σ H Q ⟨env, pend, τ, Hs, s, h⟩ => ⟨env, pend, τ, Hs, s, ?_⟩
  have h0 := h
  simp only [ev] at h0
  cases hrs : evA Φ xs env τ with
  | ok rs env1 τ1 =>
    have hl1 := hlen _ _ _ _ _ hrs
    rw [hrs] at h0
    intro vs H1 Hs1 e1 p1
    obtain ⟨s1, b1⟩ := p1
    obtain ⟨p, hp, h1⟩ := prd_of h0
    obtain ⟨Hs2, e2, s2, k2⟩ := shareAll_ok s1 b1 hp
    have hvl : vs.length = n := by
      rw [← hl1]
      clear h0 h1 hp k2 s2 hrs hl1
      induction b1 with
      | nil => rfl
      | cons _ _ ih => exact congrArg (· + 1) ih
    exact call_step G hvl s2 k2 (h1.mono (e1.trans e2))
  | err cl τ1 =>
    rw [hrs] at h0
    exact h0
  | stuck =>
    rw [hrs] at h0
    exact h0.elim
end
end Dv

set_option Elab.async false
set_option linter.all false
set_option maxRecDepth 100000
set_option maxHeartbeats 2000000
/-! Dv9: built-in functions. -/
namespace Dv
open PySem PySem.Spec PyProof.Rows L2
/-! ### sorted -/
theorem isIntD_iff {x : D} (h : isIntD x = true) : ∃ i, x = .int i := by
  cases x <;> first | exact ⟨_, rfl⟩ | cases h
theorem alikeAll_ints : ∀ (xs ys : List D), xs.all isIntD = true → ys.all isIntD = true → PySem.W.alikeAll xs ys = true
  | [], _, _, _ => by simp [PySem.W.alikeAll]
  | _ :: _, [], _, _ => by simp [PySem.W.alikeAll]
  | x :: xs, y :: ys, h1, h2 => by
    rw [List.all_cons, Bool.and_eq_true] at h1 h2
    obtain ⟨i, rfl⟩ := isIntD_iff h1.1
    obtain ⟨j, rfl⟩ := isIntD_iff h2.1
    simp only [PySem.W.alikeAll, PySem.W.alike, Bool.true_and]
    exact alikeAll_ints xs ys h1.2 h2.2
theorem depthAll_ints : ∀ (xs : List D), xs.all isIntD = true → PyData.depthAll xs = 0
  | [], _ => by simp [PyData.depthAll]
  | x :: xs, h => by
    rw [List.all_cons, Bool.and_eq_true] at h
    obtain ⟨i, rfl⟩ := isIntD_iff h.1
    simp [PyData.depthAll, PyData.depth, depthAll_ints xs h.2]
theorem tupIntD_iff {x : D} (h : tupIntD x = true) : ∃ y r, x = .tuple (y :: r) ∧ (y :: r).all isIntD = true := by
  unfold tupIntD at h
  split at h
  · exact ⟨_, _, rfl, h⟩
  · cases h
theorem sortOk_alike {xs : List D} (h : sortOk xs = true) : PySem.W.AllAlike xs ∧ PySem.W.Sortable xs ∧ ∀ x ∈ xs, x.depth ≤ 1 := by
  unfold sortOk at h
  rw [Bool.and_eq_true, Bool.or_eq_true] at h
  rcases h.1 with h | h
  · rw [List.all_eq_true] at h
    refine ⟨fun x hx y hy => ?_, .inr fun x hx => ?_, fun x hx => ?_⟩
    · obtain ⟨i, rfl⟩ := isIntD_iff (h x hx)
      obtain ⟨j, rfl⟩ := isIntD_iff (h y hy)
      simp [PySem.W.alike]
    · obtain ⟨i, rfl⟩ := isIntD_iff (h x hx)
      exact ⟨(fun z => nomatch z), (fun _ z => nomatch z)⟩
    · obtain ⟨i, rfl⟩ := isIntD_iff (h x hx)
      simp [PyData.depth]
  · rw [List.all_eq_true] at h
    refine ⟨fun x hx y hy => ?_, .inl fun x hx => ?_, fun x hx => ?_⟩
    · obtain ⟨a, r, rfl, h1⟩ := tupIntD_iff (h x hx)
      obtain ⟨b, q, rfl, h2⟩ := tupIntD_iff (h y hy)
      show PySem.W.alikeAll _ _ = true
      exact alikeAll_ints _ _ h1 h2
    · obtain ⟨a, r, rfl, h1⟩ := tupIntD_iff (h x hx)
      exact ⟨a, r, rfl⟩
    · obtain ⟨a, r, rfl, h1⟩ := tupIntD_iff (h x hx)
      have e := depthAll_ints _ h1
      rw [PyData.depth]
      omega
def rSortD (K : PySem.W.Frag) : List V → Hp → VK → Prop := fun vs H Q => ∃ (a : Addr) (xs : List V) (ds : List D), vs = [V.ref a] ∧ SqL K H a xs ∧ DpAll K H xs ds ∧ xs.length = ds.length ∧ sortOk ds = true ∧
  ∀ (l : List (V × D)) (p : Addr), l.Perm (xs.zip ds) → l.map Prod.snd = sortD ds → H p = none → Q (.ref p) (upd H p (.lst (l.map Prod.fst)))
section
variable {X : Cx}
theorem each_of {R : Value → V × D → Prop} : ∀ {xs : List V} {its : List Value} {ds : List D}, Vals xs its → xs.length = ds.length → (∀ (i : Nat) (x : V) (u : Value) (d : D), xs[i]? = some x → its[i]? = some u → ds[i]? = some d → RelV x u → R u (x, d)) → PySem.W.EachIs R its (xs.zip ds)
  | [], _, _, r, _, _ => by
    cases r
    exact .nil
  | x :: xs, _, [], _, h, _ => by simp at h
  | x :: xs, _, d :: ds, r, h, k => by
    cases r with
    | cons a b => exact .cons (k 0 _ _ _ rfl rfl rfl a) (each_of b (by simpa using h) fun i x u d h1 h2 h3 h4 => k (i + 1) x u d (by simpa using h1) (by simpa using h2) (by simpa using h3) h4)
theorem dpAll_get {K : PySem.W.Frag} {H : Hp} : ∀ {xs : List V} {ds : List D} {i : Nat} {x : V} {d : D}, DpAll K H xs ds → xs[i]? = some x → ds[i]? = some d → Dp K H x d
  | _, _, _, _, _, .nil, e, _ => by simp at e
  | _, _, 0, _, _, .cons h _, e1, e2 => by
    simp at e1 e2
    subst e1 e2
    exact h
  | _, _, i + 1, _, _, .cons _ t, e1, e2 => dpAll_get (i := i) t (by simpa using e1) (by simpa using e2)
theorem vals_back2 {l : List (V × D)} {out : List Value} (h : PySem.W.EachIs (fun u (p : V × D) => RelV p.1 u) out l) : Vals (l.map Prod.fst) out := by
  induction h with
  | nil => exact .nil
  | cons a _ ih => exact .cons a ih
theorem cr_sortedD (hc : X.calm = true) (hu : X.A.units + 65 < cLine) : CallR X (.builtin "sorted") (rSortD X.K) := by
  intro pins s σ H vs us Q I r h
  obtain ⟨a, xs, ds, rfl, hs, hd, hl0, hok, q⟩ := h
  obtain ⟨its, rv, hl, hz⟩ := I.list hs
  rw [Vals.ref1 r]
  obtain ⟨h1, h2, h3⟩ := sortOk_alike hok
  have em : (xs.zip ds).map Prod.snd = ds := List.map_snd_zip (by omega)
  refine PySem.W.sorted_data (enc := Prod.snd) (R := fun u (p : V × D) => RelV p.1 u) (vs := its) (bs := xs.zip ds) hl.isList (each_of rv hl0 fun _ _ _ _ _ _ _ r => r)
    (each_of rv hl0 fun i x u d e1 e2 e3 r => Dp.reads I d x u (dpAll_get hd e1 e3) r) (by rw [em]; exact h1) (by rw [em]; exact h2) (by rw [List.length_zip]; omega) (fun b hb => ?_) fun out ho he => ?_
  · have := h3 b.2 (by rw [← em]; exact List.mem_map.mpr ⟨b, hb, rfl⟩)
    omega
  · generalize hl' : (xs.zip ds).mergeSort (PySem.W.dataLe false Prod.snd) = l at he
    have hp : l.Perm (xs.zip ds) := by rw [← hl']; exact List.mergeSort_perm _ _
    have hsnd : l.map Prod.snd = sortD ds := by
      rw [← hl', List.map_mergeSort (r := PySem.W.dataLe false Prod.snd) (f := Prod.snd) (s := PySem.W.dataLe false id) (fun a _ b _ => rfl), em]
      rfl
    obtain ⟨ep, he'⟩ := PyProof.Rows.sortedAll_at s.heap its out.toArray
    refine ⟨.ref _, upd H (s.heap.objs.size + 1) (.lst (l.map Prod.fst)), I.laid (t' := s.toks) (fun _ _ => PyProof.Rows.sortedAll_old) (Nat.le_succ _) ⟨?_, out, ep, vals_back2 he, he'⟩, rfl, q l _ hp hsnd (I.hok.fresh (Nat.le_succ _))⟩
    rw [List.length_map, hp.length_eq, List.length_zip]
    omega
end
theorem rpAll_perm {K : PySem.W.Frag} {Hs : Hp} {l m : List (V × D)} (p : l.Perm m) (h : ∀ q ∈ m, Rp K Hs q.1 q.2) : RpAll K Hs (l.map Prod.fst) (l.map Prod.snd) := by
  have h' : ∀ q ∈ l, Rp K Hs q.1 q.2 := fun q hq => h q (p.mem_iff.mp hq)
  clear p h
  induction l with
  | nil => exact .nil
  | cons a l ih => exact .cons (h' a List.mem_cons_self) (ih fun q hq => h' q (List.mem_cons_of_mem _ hq))
theorem rpAll_zip {K : PySem.W.Frag} {Hs : Hp} {vs : List V} {ds : List D} (h : RpAll K Hs vs ds) : ∀ q ∈ vs.zip ds, Rp K Hs q.1 q.2 := by
  match h with
  | .nil => intro q hq; simp at hq
  | .cons a b =>
    intro q hq
    rw [List.zip_cons_cons] at hq
    rcases List.mem_cons.mp hq with e | hq
    · rw [e]
      exact a
    · exact rpAll_zip b q hq
/-! ### the functions -/
section
variable {X : Cx} {c : Fc} {W : WX} {Φ : Orc} {g : Sig} {env : Env} {pend : List (Addr × List D)} {τ : Tp} {σ : L2.St} {H H' Hs Hs' : Hp} {v u : V} {x y : D}
/-- values that stand for data -/
def Lks (c : Fc) (H Hs : Hp) (vs : List V) (ds : List D) : Prop := vs.length = ds.length ∧ ∀ (i : Nat) (v : V) (x : D), vs[i]? = some v → ds[i]? = some x → RpB c.K H Hs v x
theorem Lks.one {vs : List V} {d : D} (h : Lks c H Hs vs [d]) : ∃ v, vs = [v] ∧ RpB c.K H Hs v d := by
  obtain ⟨l, k⟩ := h
  match vs, l with
  | [v], _ => exact ⟨v, rfl, k 0 v d rfl rfl⟩
theorem Lks.two {vs : List V} {d e : D} (h : Lks c H Hs vs [d, e]) : ∃ v w, vs = [v, w] ∧ RpB c.K H Hs v d ∧ RpB c.K H Hs w e := by
  obtain ⟨l, k⟩ := h
  match vs, l with
  | [v, w], _ => exact ⟨v, w, rfl, k 0 v d rfl rfl, k 1 w e rfl rfl⟩
def BltR (X : Cx) (c : Fc) (fv : Value) (f : BF) : Prop := ∃ r : List V → Hp → VK → Prop, CallR X fv r ∧
  ∀ (W : WX) (env : Env) (pend : List (Addr × List D)) (τ : Tp) (σ : L2.St) (H Hs : Hp) (vs : List V) (ds : List D) (z : Rv) (Q : VK), Stt c env pend τ σ H Hs → Lks c H Hs vs ds → bltD f ds = some z → PRd c W σ (PV c pend σ) Hs (.ok z env τ) Q → r vs H Q
theorem intsD_rp {K : PySem.W.Frag} : ∀ {ds : List D} {ns : List Int} {vs : List V}, intsD ds = some ns → RpAll K Hs vs ds → vs = ns.map V.int
  | [], ns, _, h, r => by
    cases h
    cases r
    rfl
  | .int i :: ds, ns, _, h, r => by
    obtain ⟨ms, h1, rfl⟩ := Option.map_eq_some_iff.mp h
    cases r with
    | cons a b =>
      cases a
      rw [intsD_rp h1 b]
      rfl
  | .none :: _, _, _, h, _ => by cases h
  | .bool _ :: _, _, _, h, _ => by cases h
  | .str _ :: _, _, _, h, _ => by cases h
  | .list _ :: _, _, _, h, _ => by cases h
  | .tuple _ :: _, _, _, h, _ => by cases h
  | .dict _ :: _, _, _, h, _ => by cases h
theorem boolsD_rp {K : PySem.W.Frag} : ∀ {ds : List D} {ns : List Bool} {vs : List V}, boolsD ds = some ns → RpAll K Hs vs ds → vs = ns.map V.bl
  | [], ns, _, h, r => by
    cases h
    cases r
    rfl
  | .bool i :: ds, ns, _, h, r => by
    obtain ⟨ms, h1, rfl⟩ := Option.map_eq_some_iff.mp h
    cases r with
    | cons a b =>
      cases a
      rw [boolsD_rp h1 b]
      rfl
  | .none :: _, _, _, h, _ => by cases h
  | .int _ :: _, _, _, h, _ => by cases h
  | .str _ :: _, _, _, h, _ => by cases h
  | .list _ :: _, _, _, h, _ => by cases h
  | .tuple _ :: _, _, _, h, _ => by cases h
  | .dict _ :: _, _, _, h, _ => by cases h
/-- a list or tuple of ints -/
theorem seq_ints (G : Good X W c Φ g) (s : Stt c env pend τ σ H Hs) {d : D} {xs : List D} {ns : List Int} (k : RpB c.K H Hs v d) (h : seqOf d = some xs) (hn : intsD xs = some ns) : ∃ a, v = .ref a ∧ (SqL X.K H a (ns.map V.int) ∨ SqT X.K H a (ns.map V.int)) := by
  unfold seqOf at h
  split at h
  · cases h
    obtain ⟨a, vs, rfl, h1, h2⟩ := rpB_list k s.core.sub
    rw [intsD_rp hn h2] at h1
    exact ⟨a, rfl, .inl (SqL.of h1)⟩
  · cases h
    obtain ⟨a, vs, rfl, h1, h2, _⟩ := rpB_tup k s.core.sub
    rw [intsD_rp hn h2] at h1
    exact ⟨a, rfl, .inr (by rw [G.hK]; exact h1)⟩
  · cases h
def fvOf : BF → Value
  | .len => .builtin "len"
  | .abs => .builtin "abs"
  | .int => .type "int"
  | .max => .builtin "max"
  | .min => .builtin "min"
  | .sum => .builtin "sum"
  | .all => .builtin "all"
  | .any => .builtin "any"
  | .tuple => .type "tuple"
  | .list => .type "list"
  | .sorted => .builtin "sorted"
  | .listRange => .type "list"
theorem blt_len (G : Good X W c Φ g) : BltR X c (.builtin "len") .len := by
  refine ⟨_, call_len, fun W env pend τ σ H Hs vs ds z Q s k e h => ?_⟩
  unfold bltD at e
  split at e
  all_goals first
    | (rename_i h1; cases h1; done)
    | (cases e; done)
    | skip
  all_goals cases e
  · obtain ⟨v, rfl, kv⟩ := k.one
    obtain ⟨a, vs, rfl, h1, h2⟩ := rpB_list kv s.core.sub
    refine ⟨_, _, rfl, .inl ⟨vs, SqL.of h1, rfl⟩, ?_⟩
    rw [h2.length]
    exact fin_sh h s (.int _)
  · obtain ⟨v, rfl, kv⟩ := k.one
    obtain ⟨a, vs, rfl, h1, h2, _⟩ := rpB_tup kv s.core.sub
    refine ⟨_, _, rfl, .inr ⟨vs, by rw [G.hK]; exact h1, rfl⟩, ?_⟩
    rw [h2.length]
    exact fin_sh h s (.int _)
theorem blt_abs (G : Good X W c Φ g) : BltR X c (.builtin "abs") .abs := by
  refine ⟨_, call_abs, fun W env pend τ σ H Hs vs ds z Q s k e h => ?_⟩
  unfold bltD at e
  split at e
  all_goals first
    | (rename_i h1; cases h1; done)
    | (cases e; done)
    | skip
  all_goals cases e
  · obtain ⟨v, rfl, kv⟩ := k.one
    exact ⟨_, by rw [rpB_int kv], fin_sh h s (.int _)⟩
theorem blt_int (G : Good X W c Φ g) : BltR X c (.type "int") .int := by
  refine ⟨_, call_int1, fun W env pend τ σ H Hs vs ds z Q s k e h => ?_⟩
  unfold bltD at e
  split at e
  all_goals first
    | (rename_i h1; cases h1; done)
    | (cases e; done)
    | skip
  all_goals cases e
  · obtain ⟨v, rfl, kv⟩ := k.one
    exact .inl ⟨_, by rw [rpB_int kv], fin_sh h s (.int _)⟩
  · obtain ⟨v, rfl, kv⟩ := k.one
    exact .inr ⟨_, by rw [rpB_bool kv], fin_sh h s (.int _)⟩
theorem blt_max (G : Good X W c Φ g) : BltR X c (.builtin "max") .max := by
  refine ⟨_, CallR.or (call_max2 G.calm) (cr_maxA G.calm G.room), fun W env pend τ σ H Hs vs ds z Q s k e h => ?_⟩
  unfold bltD at e
  split at e
  all_goals first
    | (rename_i h1; cases h1; done)
    | (cases e; done)
    | skip
  · cases e
    obtain ⟨v, w, rfl, kv, kw⟩ := k.two
    exact .inl ⟨_, _, by rw [rpB_int kv, rpB_int kw], fin_sh h s (.int _)⟩
  · split at e
    · rename_i hn
      cases e
      obtain ⟨xs, hx, hn⟩ := Option.bind_eq_some_iff.mp hn
      obtain ⟨v, rfl, kv⟩ := k.one
      obtain ⟨a, rfl, hs⟩ := seq_ints G s kv hx hn
      exact .inr ⟨a, _, _, rfl, hs, fin_sh h s (.int _)⟩
    · cases e
theorem blt_min (G : Good X W c Φ g) : BltR X c (.builtin "min") .min := by
  refine ⟨_, CallR.or (call_min2 G.calm) (cr_minA G.calm G.room), fun W env pend τ σ H Hs vs ds z Q s k e h => ?_⟩
  unfold bltD at e
  split at e
  all_goals first
    | (rename_i h1; cases h1; done)
    | (cases e; done)
    | skip
  · cases e
    obtain ⟨v, w, rfl, kv, kw⟩ := k.two
    exact .inl ⟨_, _, by rw [rpB_int kv, rpB_int kw], fin_sh h s (.int _)⟩
  · split at e
    · rename_i hn
      cases e
      obtain ⟨xs, hx, hn⟩ := Option.bind_eq_some_iff.mp hn
      obtain ⟨v, rfl, kv⟩ := k.one
      obtain ⟨a, rfl, hs⟩ := seq_ints G s kv hx hn
      exact .inr ⟨a, _, _, rfl, hs, fin_sh h s (.int _)⟩
    · cases e
theorem blt_sum (G : Good X W c Φ g) : BltR X c (.builtin "sum") .sum := by
  refine ⟨_, CallR.or (cr_sum G.calm) (cr_sumT G.calm), fun W env pend τ σ H Hs vs ds z Q s k e h => ?_⟩
  unfold bltD at e
  split at e
  all_goals first
    | (rename_i h1; cases h1; done)
    | (cases e; done)
    | skip
  · obtain ⟨ns, hn, rfl⟩ := Option.map_eq_some_iff.mp e
    obtain ⟨xs, hx, hn⟩ := Option.bind_eq_some_iff.mp hn
    obtain ⟨v, rfl, kv⟩ := k.one
    obtain ⟨a, rfl, hs⟩ := seq_ints G s kv hx hn
    rcases hs with hs | hs
    · exact .inl ⟨a, ns, rfl, hs, fin_sh h s (.int _)⟩
    · exact .inr ⟨a, ns, rfl, hs, fin_sh h s (.int _)⟩
theorem blt_all (G : Good X W c Φ g) : BltR X c (.builtin "all") .all := by
  refine ⟨_, cr_all G.calm, fun W env pend τ σ H Hs vs ds z Q s k e h => ?_⟩
  unfold bltD at e
  split at e
  all_goals first
    | (rename_i h1; cases h1; done)
    | (cases e; done)
    | skip
  · obtain ⟨bs, hb, rfl⟩ := Option.map_eq_some_iff.mp e
    obtain ⟨v, rfl, kv⟩ := k.one
    obtain ⟨a, vs, rfl, h1, h2⟩ := rpB_list kv s.core.sub
    rw [boolsD_rp hb h2] at h1
    exact ⟨a, bs, rfl, SqL.of h1, fin_sh h s (.bl _)⟩
theorem blt_any (G : Good X W c Φ g) : BltR X c (.builtin "any") .any := by
  refine ⟨_, cr_any G.calm, fun W env pend τ σ H Hs vs ds z Q s k e h => ?_⟩
  unfold bltD at e
  split at e
  all_goals first
    | (rename_i h1; cases h1; done)
    | (cases e; done)
    | skip
  · obtain ⟨bs, hb, rfl⟩ := Option.map_eq_some_iff.mp e
    obtain ⟨v, rfl, kv⟩ := k.one
    obtain ⟨a, vs, rfl, h1, h2⟩ := rpB_list kv s.core.sub
    rw [boolsD_rp hb h2] at h1
    exact ⟨a, bs, rfl, SqL.of h1, fin_sh h s (.bl _)⟩
theorem blt_tuple (G : Good X W c Φ g) : BltR X c (.type "tuple") .tuple := by
  refine ⟨_, call_tuple_of, fun W env pend τ σ H Hs vs ds z Q s k e h => ?_⟩
  unfold bltD at e
  split at e
  all_goals first
    | (rename_i h1; cases h1; done)
    | (cases e; done)
    | skip
  all_goals cases e
  · obtain ⟨v, rfl, kv⟩ := k.one
    obtain ⟨a, vs, rfl, h1, h2⟩ := rpB_list kv s.core.sub
    exact ⟨a, vs, rfl, .inl ⟨SqL.of h1, fun l n => fin_tup h s n h2⟩⟩
  · obtain ⟨v, rfl, kv⟩ := k.one
    obtain ⟨a, vs, rfl, h1, h2, h3⟩ := rpB_tup kv s.core.sub
    exact ⟨a, vs, rfl, .inr ⟨by rw [G.hK]; exact h1, fin_sh h s h3⟩⟩
theorem blt_list (G : Good X W c Φ g) : BltR X c (.type "list") .list := by
  refine ⟨_, call_list_of, fun W env pend τ σ H Hs vs ds z Q s k e h => ?_⟩
  unfold bltD at e
  split at e
  all_goals first
    | (rename_i h1; cases h1; done)
    | (cases e; done)
    | skip
  all_goals cases e
  · obtain ⟨v, rfl, kv⟩ := k.one
    obtain ⟨a, vs, rfl, h1, h2⟩ := rpB_list kv s.core.sub
    exact ⟨a, vs, rfl, .inl (SqL.of h1), fun l n => fin_fr h s n h2⟩
  · obtain ⟨v, rfl, kv⟩ := k.one
    obtain ⟨a, vs, rfl, h1, h2, h3⟩ := rpB_tup kv s.core.sub
    exact ⟨a, vs, rfl, .inr (by rw [G.hK]; exact h1), fun l n => fin_fr h s n h2⟩
theorem blt_sorted (G : Good X W c Φ g) : BltR X c (.builtin "sorted") .sorted := by
  refine ⟨_, cr_sortedD G.calm G.room, fun W env pend τ σ H Hs vs ds z Q s k e h => ?_⟩
  unfold bltD at e
  split at e
  all_goals first
    | (rename_i h1; cases h1; done)
    | (cases e; done)
    | skip
  · split at e
    · rename_i hok
      cases e
      obtain ⟨v, rfl, kv⟩ := k.one
      obtain ⟨a, vs, rfl, h1, h2⟩ := rpB_list kv s.core.sub
      refine ⟨a, vs, _, rfl, SqL.of h1, ?_, h2.length, hok, fun l p hp hm n => ?_⟩
      · rw [G.hK]
        exact (h2.sub s.core.sub).dp
      · refine fin_fr h s n ?_
        rw [← hm]
        exact rpAll_perm hp (rpAll_zip h2)
    · cases e
theorem blt_none (G : Good X W c Φ g) : BltR X c (.type "list") .listRange := by
  refine ⟨_, call_list_of, fun W env pend τ σ H Hs vs ds z Q s k e h => ?_⟩
  unfold bltD at e
  split at e
  all_goals first
    | (rename_i h1; cases h1; done)
    | (cases e; done)
theorem blt_all' (G : Good X W c Φ g) : ∀ f : BF, BltR X c (fvOf f) f
  | .len => blt_len G
  | .abs => blt_abs G
  | .int => blt_int G
  | .max => blt_max G
  | .min => blt_min G
  | .sum => blt_sum G
  | .all => blt_all G
  | .any => blt_any G
  | .tuple => blt_tuple G
  | .list => blt_list G
  | .sorted => blt_sorted G
  | .listRange => blt_none G
def nmOf : BF → Str
  | .len => "len"
  | .abs => "abs"
  | .int => "int"
  | .max => "max"
  | .min => "min"
  | .sum => "sum"
  | .all => "all"
  | .any => "any"
  | .tuple => "tuple"
  | .list => "list"
  | .sorted => "sorted"
  | .listRange => "list"
theorem blt_boot (f : BF) : bootBuiltins (nmOf f) = some (fvOf f) := by
  cases f <;> decide +kernel
theorem nmOf_mem (f : BF) : nmOf f ∈ bltNames := by
  cases f <;> simp [nmOf, bltNames]
theorem blt_step (G : Good X W c Φ g) {f : BF} {xs : Es} {r : List V → Hp → VK → Prop} (hr2 : ∀ (W : WX) (env : Env) (pend : List (Addr × List D)) (τ : Tp) (σ : L2.St) (H Hs : Hp) (vs : List V) (ds : List D) (z : Rv) (Q : VK), Stt c env pend τ σ H Hs → Lks c H Hs vs ds → bltD f ds = some z → PRd c W σ (PV c pend σ) Hs (.ok z env τ) Q → r vs H Q)
    {σ : L2.St} {H : Hp} {Q : VK} (h : tE Φ c W (.blt f xs) σ H Q) : tCB r (tA Φ c W xs) σ H Q := by
  obtain ⟨env, pend, τ, Hs, s, h⟩ := h
  refine ⟨env, pend, τ, Hs, s, prd_bind h fun rs env1 τ1 vs H1 Hs1 e1 p1 h1 => ?_⟩
  obtain ⟨s1, b1⟩ := p1
  obtain ⟨ds, hd, h2⟩ := prd_of h1
  obtain ⟨z, hz, h3⟩ := prd_of h2
  obtain ⟨l, k⟩ := lookDs_ok s1 b1 hd
  exact hr2 W env1 pend τ1 σ H1 Hs1 vs ds z Q s1 ⟨l, k⟩ hz h3
theorem c_blt (G : Good X W c Φ g) {f : BF} {xs : Es} {e : Expr} {es : List Expr} {p pos : Pos} (hgl : Gl X (nmOf f)) (ha : PA X (e :: es) (tA Φ c W xs))
    (he : starEach (e :: es) X.env = (false, eval e X.env) :: starEach es X.env) (hpl : (backTo pos (starEach es X.env)).any (·.1) = false) :
    PE X (.Call (.Name (nmOf f) p) (e :: es) [] pos) (tE Φ c W (.blt f xs)) := by
  obtain ⟨r, hr, hr2⟩ := blt_all' G f
  have hv := blt_boot f
  have hm := G.blt _ (nmOf_mem f)
  have hn : nmOf f ≠ "__name__" := by cases f <;> decide
  have hdb : (nmOf f == ("__debug__" : Str)) = false := by cases f <;> decide
  cases f <;> first
    | exact pe_imp (pe_callB hr hgl hm hv ha hn hdb he hpl) fun σ H Q h => blt_step G hr2 h
    | exact pe_imp (pe_callTy hr hgl hm hv ha hn hdb he hpl) fun σ H Q h => blt_step G hr2 h
end
end Dv

set_option Elab.async false
set_option linter.all false
set_option maxRecDepth 100000
set_option maxHeartbeats 2000000
/-! Dv10: lists that change, targets, iterators. -/
namespace Dv
open PySem PySem.Spec PyProof.Rows L2
section
variable {X : Cx} {c : Fc} {W : WX} {Φ : Orc} {g : Sig} {env : Env} {pend : List (Addr × List D)} {τ : Tp} {σ : L2.St} {H H' Hs Hs' : Hp} {v u : V} {x y : D}
/-! ### a list of one's own changes -/
theorem tabs_mut {T : List (Addr × Str)} {a : Addr} {o : HO} {R : List V → Prop} (t : LamX.Tabs T H) (h : ∃ vs, H a = some (.lst vs) ∧ R vs) : LamX.Tabs T (upd H a o) := fun p hp => by
  obtain ⟨vs, hv, _⟩ := h
  obtain ⟨ps, h1, h2, h3⟩ := t p hp
  have n1 : p.1 ≠ a := fun e => by
    rw [e, hv] at h1
    cases h1
  refine ⟨ps, (upd_ne n1).trans h1, h2, fun pos cv hc => ?_⟩
  obtain ⟨c, e1, e2⟩ := h3 pos cv hc
  have n2 : c ≠ a := fun e => by
    rw [e, hv] at e2
    exact nomatch Option.some.inj e2
  exact ⟨c, e1, (upd_ne n2).trans e2⟩
theorem Core.mut {a : Addr} {xs : List D} {o : HO} (C : Core c τ H Hs) (w : OwnAt c H Hs a xs) : Core c τ (upd H a o) Hs := by
  refine ⟨fun p q e => ?_, fun p q e h1 h2 => ?_, C.old, C.new, ?_, C.nT, C.nt, tabs_mut C.tabs w.at_⟩
  · rw [upd_ne (ne_of_none e w.nHs)]
    exact C.sub p q e
  · rw [upd_ne (fun z => w.nH0 q (by rw [← z]; exact e) h2)]
    exact C.keep p q e h1 h2
  · obtain ⟨z, t1, t2⟩ := C.tape
    exact ⟨z, t1, by rw [upd_ne (Ne.symm w.nT)]; exact t2⟩
theorem Stt.mut {i : Nat} {a : Addr} {xs xs' : List D} {vs' : List V} (s : Stt c env pend τ σ H Hs) (h : env[i]? = some (some (Sl.own xs))) (hσ : σ[i]? = some (some (.ref a))) (r : RpAll c.K Hs vs' xs') :
    Stt c (env.set i (some (Sl.own xs'))) pend τ σ (upd H a (.lst vs')) Hs := by
  obtain ⟨a', q1, o⟩ := s.slot i _ h
  rw [hσ] at q1
  cases q1
  have il : i < env.length := (List.getElem?_eq_some_iff.mp h).1
  have own_ne : ∀ j ys, (env.set i (some (Sl.own xs')))[j]? = some (some (Sl.own ys)) → ∃ zs, env[j]? = some (some (Sl.own zs)) := fun j ys q => by
    by_cases hj : j = i
    · rw [hj]
      exact ⟨xs, h⟩
    · rw [List.getElem?_set_ne (Ne.symm hj)] at q
      exact ⟨ys, q⟩
  refine ⟨s.core.mut o, by rw [List.length_set]; exact s.len, fun j z hz => ?_, fun j k ys zs b a1 a2 a3 a4 => ?_, fun p hp => ?_, fun p hp j ys hj => ?_, s.pdup⟩
  · by_cases hj : j = i
    · rw [hj, List.getElem?_set_self il] at hz
      cases hz
      rw [hj]
      exact ⟨a, hσ, ⟨⟨vs', upd_same, r⟩, o.nHs, o.nH0, o.nT⟩⟩
    · rw [List.getElem?_set_ne (Ne.symm hj)] at hz
      have q := s.slot j z hz
      cases z with
      | sh z => exact q
      | own ys =>
        obtain ⟨b, z1, z2⟩ := q
        exact ⟨b, z1, z2.grow (Sub.refl _) z2.nHs (upd_ne (fun e => hj (s.inj j i ys xs a hz h (by rw [z1, e]) hσ)))⟩
  · obtain ⟨ys', y1⟩ := own_ne j ys a1
    obtain ⟨zs', z1⟩ := own_ne k zs a2
    exact s.inj j k ys' zs' b y1 z1 a3 a4
  · refine (s.pnd p hp).grow (Sub.refl _) (s.pnd p hp).nHs (upd_ne (fun e => s.pno p hp i xs h ?_))
    rw [hσ, e]
  · obtain ⟨ys', y1⟩ := own_ne j ys hj
    exact s.pno p hp j ys' y1
theorem Stt.setSh {i : Nat} {z : Va} (s : Stt c env pend τ σ H Hs) (k : VaOk c Hs v z) : Stt c (env.set i (some (Sl.sh z))) pend τ (σ.set i (some v)) H Hs := by
  have own_ne : ∀ j ys, (env.set i (some (Sl.sh z)))[j]? = some (some (Sl.own ys)) → j ≠ i ∧ env[j]? = some (some (Sl.own ys)) := fun j ys q => by
    by_cases hj : j = i
    · subst hj
      by_cases il : j < env.length
      · rw [List.getElem?_set_self il] at q
        cases q
      · rw [List.getElem?_eq_none (by rw [List.length_set]; omega)] at q
        cases q
    · rw [List.getElem?_set_ne (Ne.symm hj)] at q
      exact ⟨hj, q⟩
  refine ⟨s.core, by rw [List.length_set, List.length_set]; exact s.len, fun j y hy => ?_, fun j k ys zs b a1 a2 a3 a4 => ?_, s.pnd, fun p hp j ys hj => ?_, s.pdup⟩
  · by_cases hj : j = i
    · subst hj
      have il : j < env.length := by
        have := (List.getElem?_eq_some_iff.mp hy).1
        rwa [List.length_set] at this
      rw [List.getElem?_set_self il] at hy
      cases hy
      exact ⟨v, by rw [List.getElem?_set_self (by rw [← s.len]; exact il)], k⟩
    · rw [List.getElem?_set_ne (Ne.symm hj)] at hy
      have q := s.slot j y hy
      rw [List.getElem?_set_ne (Ne.symm hj)]
      exact q
  · obtain ⟨n1, b1⟩ := own_ne j ys a1
    obtain ⟨n2, b2⟩ := own_ne k zs a2
    rw [List.getElem?_set_ne (Ne.symm n1)] at a3
    rw [List.getElem?_set_ne (Ne.symm n2)] at a4
    exact s.inj j k ys zs b b1 b2 a3 a4
  · obtain ⟨n1, b1⟩ := own_ne j ys hj
    rw [List.getElem?_set_ne (Ne.symm n1)]
    exact s.pno p hp j ys b1
theorem Stt.setOwn {i : Nat} {a : Addr} {xs : List D} (s : Stt c env ((a, xs) :: pend) τ σ H Hs) : Stt c (env.set i (some (Sl.own xs))) pend τ (σ.set i (some (.ref a))) H Hs := by
  have o := s.pnd _ List.mem_cons_self
  have nd := s.pdup
  rw [List.map_cons, List.nodup_cons] at nd
  have own_ne : ∀ j ys, j ≠ i → (env.set i (some (Sl.own xs)))[j]? = some (some (Sl.own ys)) → env[j]? = some (some (Sl.own ys)) := fun j ys hj q => by
    rw [List.getElem?_set_ne (Ne.symm hj)] at q
    exact q
  refine ⟨s.core, by rw [List.length_set, List.length_set]; exact s.len, fun j y hy => ?_, fun j k ys zs b a1 a2 a3 a4 => ?_, fun p hp => s.pnd p (List.mem_cons_of_mem _ hp), fun p hp j ys hj => ?_, nd.2⟩
  · by_cases hj : j = i
    · subst hj
      have il : j < env.length := by
        have := (List.getElem?_eq_some_iff.mp hy).1
        rwa [List.length_set] at this
      rw [List.getElem?_set_self il] at hy
      cases hy
      exact ⟨a, by rw [List.getElem?_set_self (by rw [← s.len]; exact il)], o⟩
    · rw [List.getElem?_set_ne (Ne.symm hj)] at hy
      have q := s.slot j y hy
      rw [List.getElem?_set_ne (Ne.symm hj)]
      exact q
  · by_cases hj : j = i
    · by_cases hk : k = i
      · rw [hj, hk]
      · subst hj
        have il : j < σ.length := by
          have := (List.getElem?_eq_some_iff.mp a3).1
          rwa [List.length_set] at this
        rw [List.getElem?_set_self il] at a3
        cases a3
        rw [List.getElem?_set_ne (Ne.symm hk)] at a4
        exact absurd a4 (s.pno _ List.mem_cons_self k zs (own_ne k zs hk a2))
    · by_cases hk : k = i
      · subst hk
        have il : k < σ.length := by
          have := (List.getElem?_eq_some_iff.mp a4).1
          rwa [List.length_set] at this
        rw [List.getElem?_set_self il] at a4
        cases a4
        rw [List.getElem?_set_ne (Ne.symm hj)] at a3
        exact absurd a3 (s.pno _ List.mem_cons_self j ys (own_ne j ys hj a1))
      · rw [List.getElem?_set_ne (Ne.symm hj)] at a3
        rw [List.getElem?_set_ne (Ne.symm hk)] at a4
        exact s.inj j k ys zs b (own_ne j ys hj a1) (own_ne k zs hk a2) a3 a4
  · by_cases hji : j = i
    · subst hji
      intro z
      have il : j < σ.length := by
        have := (List.getElem?_eq_some_iff.mp z).1
        rwa [List.length_set] at this
      rw [List.getElem?_set_self il] at z
      exact nd.1 (List.mem_map.mpr ⟨p, hp, (V.ref.inj (Option.some.inj (Option.some.inj z))).symm⟩)
    · rw [List.getElem?_set_ne (Ne.symm hji)]
      exact s.pno p (List.mem_cons_of_mem _ hp) j ys (own_ne j ys hji hj)
theorem Stt.setNo {i : Nat} (s : Stt c env pend τ σ H Hs) : Stt c (env.set i none) pend τ (σ.set i none) H Hs := by
  have ne : ∀ j (y : Sl), (env.set i none)[j]? = some (some y) → j ≠ i ∧ env[j]? = some (some y) := fun j y q => by
    by_cases hj : j = i
    · subst hj
      by_cases il : j < env.length
      · rw [List.getElem?_set_self il] at q
        cases q
      · rw [List.getElem?_eq_none (by rw [List.length_set]; omega)] at q
        cases q
    · rw [List.getElem?_set_ne (Ne.symm hj)] at q
      exact ⟨hj, q⟩
  refine ⟨s.core, by rw [List.length_set, List.length_set]; exact s.len, fun j y hy => ?_, fun j k ys zs b a1 a2 a3 a4 => ?_, s.pnd, fun p hp j ys hj => ?_, s.pdup⟩
  · obtain ⟨n1, b1⟩ := ne j y hy
    rw [List.getElem?_set_ne (Ne.symm n1)]
    exact s.slot j y b1
  · obtain ⟨n1, b1⟩ := ne j _ a1
    obtain ⟨n2, b2⟩ := ne k _ a2
    rw [List.getElem?_set_ne (Ne.symm n1)] at a3
    rw [List.getElem?_set_ne (Ne.symm n2)] at a4
    exact s.inj j k ys zs b b1 b2 a3 a4
  · obtain ⟨n1, b1⟩ := ne j _ hj
    rw [List.getElem?_set_ne (Ne.symm n1)]
    exact s.pno p hp j ys b1
theorem Stt.wipe (s : Stt c env pend τ σ H Hs) : ∀ vs : List Nat, Stt c (wipeE env vs) pend τ (L2.wipe σ vs) H Hs
  | [] => s
  | v :: vs => (Stt.wipe s vs).setNo
theorem own_var (s : Stt c env pend τ σ H Hs) {i : Nat} {xs : List D} (h : env[i]? = some (some (Sl.own xs))) : ∃ a vs, σ[i]? = some (some (.ref a)) ∧ H a = some (.lst vs) ∧ RpAll c.K Hs vs xs := by
  obtain ⟨a, q1, o⟩ := s.slot i _ h
  obtain ⟨vs, h1, h2⟩ := o.at_
  exact ⟨a, vs, q1, h1, h2⟩
theorem rpAll_drop {K : PySem.W.Frag} {vs : List V} : ∀ {ds : List D}, RpAll K H vs ds → RpAll K H vs.dropLast ds.dropLast := fun {ds} h => by
  rw [List.dropLast_eq_take, List.dropLast_eq_take, h.length]
  exact h.take _
theorem rpAll_erase {K : PySem.W.Frag} {vs : List V} {ds : List D} (k : Nat) (h : RpAll K H vs ds) : RpAll K H (vs.eraseIdx k) (ds.eraseIdx k) := by
  rw [List.eraseIdx_eq_take_drop_succ, List.eraseIdx_eq_take_drop_succ]
  exact (h.take _).append (h.drop _)
theorem c_pop {i : Nat} {n : Str} {p apos cpos : Pos} (G : Good X W c Φ g) (hN : X.N[i]? = some n) (hv : Vis X.env.scope n) (hd : (n == ("__debug__" : Str)) = false) (hcd : (n == ("__classdict__" : Str)) = false) (hline : (apos.endLine == cpos.line) = true) :
    PE X (.Call (.Attribute (.Name n p) "pop" apos) [] [] cpos) (tE Φ c W (.pop i)) := by
  refine pe_imp (pe_bm0 PySem.F.plainAttrs_list PySem.F.slot_list_pop PySem.F.type_list_pop mt_pop (pe_var (i := i) hN hv hd hcd) rfl hline) fun σ H Q ⟨env, pend, τ, Hs, s, h⟩ => ?_
  simp only [ev] at h
  split at h
  · rename_i xs hx
    obtain ⟨a, vs, q1, h1, h2⟩ := own_var s hx
    obtain ⟨z, hz, h⟩ := prd_of h
    obtain ⟨w, w1, w2⟩ := h2.get hz
    refine ⟨_, q1, .inl ⟨rfl, vs, SqL.of h1⟩, a, vs, w, rfl, rfl, h1, by rw [h2.length]; exact w1, ?_⟩
    exact h w _ Hs (Sub.refl _) ⟨s.mut hx q1 (rpAll_drop h2), w2⟩
  · exact h.elim
theorem c_popAt {i : Nat} {n : Str} {p apos cpos : Pos} {a : E} {a' : Expr} (G : Good X W c Φ g) (hN : X.N[i]? = some n) (hv : Vis X.env.scope n) (hd : (n == ("__debug__" : Str)) = false) (hcd : (n == ("__classdict__" : Str)) = false) (hline : (apos.endLine == cpos.line) = true) (ha : PE X a' (tE Φ c W a))
    (hfew : ((backTo cpos (starEach [a'] X.env)).all (fun x => !x.1) && (backToKw cpos (keywordEach [] X.env)).all (fun x => x.1.isSome) && decide (([a'] : List Expr).length + ([] : List Keyword).length + (if ([] : List Keyword).isEmpty then 0 else 1) < 30)) = true)
    (hs : starEach [a'] X.env = (false, eval a' X.env) :: starEach [] X.env) :
    PE X (.Call (.Attribute (.Name n p) "pop" apos) [a'] [] cpos) (tE Φ c W (.popAt i a)) := by
  refine pe_imp (pe_bm PySem.F.plainAttrs_list PySem.F.slot_list_pop PySem.F.type_list_pop mt_popAt (pe_var (i := i) hN hv hd hcd) (pa_cons ha pa_nil hs) rfl hfew hline hs rfl) fun σ H Q ⟨env, pend, τ, Hs, s, h⟩ => ?_
  simp only [ev] at h
  split at h
  · rename_i xs hx
    obtain ⟨ad, vs, q1, h1, h2⟩ := own_var s hx
    refine ⟨_, q1, .inl ⟨rfl, vs, SqL.of h1⟩, env, pend, τ, Hs, s, opnd h fun rv env1 τ1 w H1 Hs1 e1 s1 b1 h1 => ?_⟩
    split at h1
    · rename_i ys k hy hk
      split at h1
      · rename_i hc
        rw [Bool.and_eq_true, Bool.and_eq_true] at hc
        obtain ⟨⟨c1, c2⟩, c3⟩ := hc
        have c1 := of_decide_eq_true c1
        have c2 := of_decide_eq_true c2
        rw [small62_eq] at c3
        rw [Bool.and_eq_true] at c3
        have c4 := of_decide_eq_true c3.2
        obtain ⟨z, hz, h2⟩ := prd_of h1
        obtain ⟨ad', vs', r1, r2, r3⟩ := own_var s1 hy
        rw [q1] at r1
        cases r1
        obtain ⟨u, u1, u2⟩ := r3.get hz
        refine ⟨ad, vs', k, k.toNat, u, rfl, by rw [rpB_int (look_ok s1 b1 hk)], r2, by omega, by omega, ?_, u1, ?_⟩
        · unfold seqIndex?
          rw [r3.length]
          have : ¬ k < 0 := by omega
          simp [this, c1, c2]
        · exact h2 u _ Hs1 (Sub.refl _) ⟨s1.mut hy q1 (rpAll_erase _ r3), u2⟩
      · exact h1.elim
    · exact h1.elim
  · exact h.elim
/-! ### targets -/
mutual
def tgIx : Tg → List Nat
  | .name i => [i]
  | .tup ts => tgsIx ts
def tgsIx : List Tg → List Nat
  | [] => []
  | t :: ts => tgIx t ++ tgsIx ts
end
/-- the slots beside vs are as they were -/
def Alike (vs : List Nat) (σ σ' : L2.St) : Prop := σ'.length = σ.length ∧ ∀ j, j ∉ vs → σ'[j]? = σ[j]?
theorem Alike.refl (vs : List Nat) (σ : L2.St) : Alike vs σ σ := ⟨rfl, fun _ _ => rfl⟩
theorem Alike.app {vs ws : List Nat} {σ1 σ2 σ3 : L2.St} (a : Alike vs σ1 σ2) (b : Alike ws σ2 σ3) : Alike (vs ++ ws) σ1 σ3 :=
  ⟨b.1.trans a.1, fun j h => by
    rw [List.mem_append, not_or] at h
    rw [b.2 j h.2, a.2 j h.1]⟩
theorem wipe_get (vs : List Nat) (σ : L2.St) (j : Nat) : (L2.wipe σ vs)[j]? = if j ∈ vs then (if j < σ.length then some none else none) else σ[j]? := by
  induction vs with
  | nil => simp [L2.wipe]
  | cons v vs ih =>
    unfold L2.wipe
    by_cases h : j = v
    · subst h
      by_cases hl : j < (L2.wipe σ vs).length
      · rw [List.getElem?_set_self hl]
        rw [wipe_length] at hl
        simp [hl]
      · rw [List.getElem?_eq_none (by rw [List.length_set]; omega)]
        rw [wipe_length] at hl
        simp [hl]
    · rw [List.getElem?_set_ne (Ne.symm h), ih]
      simp [h]
theorem wipe_alike {vs ws : List Nat} {σ σ' : L2.St} (h : Alike ws σ σ') (k : ∀ i ∈ ws, i ∈ vs) : L2.wipe σ' vs = L2.wipe σ vs := by
  apply List.ext_getElem?
  intro j
  rw [wipe_get, wipe_get, h.1]
  by_cases hj : j ∈ vs
  · simp [hj]
  · simp only [hj, if_false]
    exact h.2 j fun z => hj (k j z)
theorem wipe_wipe (vs : List Nat) (σ : L2.St) : L2.wipe (L2.wipe σ vs) vs = L2.wipe σ vs := by
  apply List.ext_getElem?
  intro j
  rw [wipe_get, wipe_get, wipe_length]
  by_cases hj : j ∈ vs <;> simp [hj]
def tG (c : Fc) (tg : Tg) : TG := fun v σ H Q => ∃ env pend τ Hs x env', Stt c env pend τ σ H Hs ∧ Rp c.K Hs v x ∧ setTg tg x env = some env' ∧ ∀ σ', Alike (tgIx tg) σ σ' → Stt c env' pend τ σ' H Hs → Q σ' H
def tGs (c : Fc) (ts : List Tg) : TGs := fun vs σ H Q => ∃ env pend τ Hs xs env', Stt c env pend τ σ H Hs ∧ RpAll c.K Hs vs xs ∧ setTgs ts xs env = some env' ∧ ∀ σ', Alike (tgsIx ts) σ σ' → Stt c env' pend τ σ' H Hs → Q σ' H
theorem pg_imp {x : Expr} {t t' : TG} (h : PG X x t) (i : ∀ v σ H Q, t' v σ H Q → t v σ H Q) : PG X x t' := ⟨fun pins s σ H v u Q I r q => h.run pins s σ H v u Q I r (i v σ H Q q)⟩
theorem pgs_imp {x : List Expr} {t t' : TGs} (h : PGs X x t) (i : ∀ v σ H Q, t' v σ H Q → t v σ H Q) : PGs X x t' := ⟨fun pins s σ H v u Q I r q => h.run pins s σ H v u Q I r (i v σ H Q q)⟩
theorem set_alike (σ : L2.St) (i : Nat) (v : Option V) : Alike [i] σ (σ.set i v) := ⟨List.length_set, fun j h => List.getElem?_set_ne (fun e => h (by simp [e]))⟩
theorem g_name (G : Good X W c Φ g) {i : Nat} {n : Str} {pos : Pos} (hi : X.N[i]? = some n) (hx : Loc X.env.scope n) (hf : X.fn n = true ∨ X.env.scope.names.lookup n = some .local) : PG X (.Name n pos) (tG c (.name i)) := by
  refine pg_imp (pg_name G.nd hi hx hf) fun v σ H Q ⟨env, pend, τ, Hs, x, env', s, r, h, q⟩ => ?_
  cases h
  exact q _ (set_alike σ i _) (s.setSh r)
theorem gs_nil : PGs X [] (tGs c []) := by
  refine pgs_imp pgs_nil fun vs σ H Q ⟨env, pend, τ, Hs, xs, env', s, r, h, q⟩ => ?_
  cases xs with
  | nil =>
    cases h
    cases r
    exact ⟨rfl, q σ (Alike.refl _ _) s⟩
  | cons _ _ => cases h
theorem gs_cons {t : Tg} {ts : List Tg} {e : Expr} {es : List Expr} (h1 : PG X e (tG c t)) (h2 : PGs X es (tGs c ts)) (hs : (assignEach (e :: es) X.env).map (·.2) = assign e X.env :: (assignEach es X.env).map (·.2)) : PGs X (e :: es) (tGs c (t :: ts)) := by
  refine pgs_imp (pgs_cons h1 h2 hs) fun vs σ H Q ⟨env, pend, τ, Hs, xs, env', s, r, h, q⟩ => ?_
  cases xs with
  | nil => cases h
  | cons x xs =>
    cases r with
    | cons a b =>
      obtain ⟨e1, he1, h⟩ := Option.bind_eq_some_iff.mp h
      exact ⟨_, _, rfl, env, pend, τ, Hs, x, e1, s, a, he1, fun σ1 l1 s1 => ⟨e1, pend, τ, Hs, xs, env', s1, b, h, fun σ2 l2 s2 => q σ2 (l1.app l2) s2⟩⟩
theorem setTgs_len : ∀ {ts : List Tg} {xs : List D} {env env' : Env}, setTgs ts xs env = some env' → xs.length = ts.length
  | [], [], _, _, _ => rfl
  | t :: ts, x :: xs, env, env', h => by
    obtain ⟨e1, he1, h⟩ := Option.bind_eq_some_iff.mp h
    exact congrArg (· + 1) (setTgs_len h)
  | [], _ :: _, _, _, h => by cases h
  | _ :: _, [], _, _, h => by cases h
theorem g_tup (G : Good X W c Φ g) {ts : List Tg} {es : List Expr} {k : Nat} {pos : Pos} (h : PGs X es (tGs c ts)) (hn : (assignEach es X.env).length = ts.length) (hst : (assignEach es X.env).findIdx? (·.1) = none) : PG X (.Tuple es k pos) (tG c (.tup ts)) := by
  refine pg_imp (pg_tup G.calm h hn hst) fun v σ H Q ⟨env, pend, τ, Hs, x, env', s, r, h, q⟩ => ?_
  cases x with
  | tuple xs =>
    cases r with
    | tup r1 r2 =>
      exact ⟨_, _, rfl, by rw [G.hK]; exact sub_t s.core.sub r1, by rw [r2.length]; exact setTgs_len h, env, pend, τ, Hs, xs, env', s, r2, h, q⟩
  | _ => cases h
/-! ### iterators -/
/-- an iterator that walks data -/
structure WD (c : Fc) (Hs : Hp) (J : It) (xs : List D) : Prop where
  goes : ∀ i H, i < xs.length → Sub Hs H → J.go i H
  stops : ∀ H, Sub Hs H → J.stop xs.length H
  yields : ∀ (i : Nat) (H : Hp) (v : V) (H' : Hp) (env : Env) (pend : List (Addr × List D)) (τ : Tp) (σ : L2.St) (Hs' : Hp), i < xs.length → Sub Hs Hs' → Stt c env pend τ σ H Hs' → J.yld i H v H' →
    ∃ Hs'' x, Sub Hs' Hs'' ∧ Stt c env pend τ σ H' Hs'' ∧ xs[i]? = some x ∧ Rp c.K Hs'' v x
theorem WD.sub {J : It} {xs : List D} (w : WD c Hs J xs) (e : Sub Hs Hs') : WD c Hs' J xs :=
  ⟨fun i H hi h => w.goes i H hi (e.trans h), fun H h => w.stops H (e.trans h), fun i H v H' env pend τ σ Hs2 hi h s y => w.yields i H v H' env pend τ σ Hs2 hi (e.trans h) s y⟩
theorem wd_same {J : It} {n : Nat} {G : Hp → Prop} {Y : Nat → Hp → V → Hp → Prop} {xs : List D} (w : Walk J n G Y) (hn : xs.length = n) (hG : ∀ H, Sub Hs H → G H)
    (hY : ∀ i H v H' Hs', i < n → Sub Hs Hs' → Sub Hs' H → Y i H v H' → H' = H ∧ ∃ x, xs[i]? = some x ∧ Rp c.K Hs' v x) : WD c Hs J xs := by
  refine ⟨fun i H hi h => w.goes i H (by omega) (hG H h), fun H h => by rw [hn]; exact w.stops H (hG H h), fun i H v H' env pend τ σ Hs' hi h s y => ?_⟩
  obtain ⟨rfl, x, hx, r⟩ := hY i H v H' Hs' (by omega) h s.core.sub (w.yields i H v H' (by omega) (hG H (h.trans s.core.sub)) y)
  exact ⟨Hs', x, Sub.refl _, s, hx, r⟩
theorem wd_pair {J : It} {n : Nat} {G : Hp → Prop} {ys zs : Nat → Option V} {xs : List D} (w : Walk J n G (YPair ys zs)) (hn : xs.length = n) (hG : ∀ H, Sub Hs H → G H)
    (hY : ∀ i a b, i < n → ys i = some a → zs i = some b → ∃ x y, xs[i]? = some (.tuple [x, y]) ∧ Rp c.K Hs a x ∧ Rp c.K Hs b y) : WD c Hs J xs := by
  refine ⟨fun i H hi h => w.goes i H (by omega) (hG H h), fun H h => by rw [hn]; exact w.stops H (hG H h), fun i H v H' env pend τ σ Hs' hi h s y => ?_⟩
  obtain ⟨T, a, b, rfl, hT, rfl, ha, hb⟩ := w.yields i H v H' (by omega) (hG H (h.trans s.core.sub)) y
  obtain ⟨x, z, hx, r1, r2⟩ := hY i a b (by omega) ha hb
  obtain ⟨e, s', r⟩ := s.newTup hT (.cons (r1.sub h) (.cons (r2.sub h) .nil))
  exact ⟨_, _, e, s', hx, r⟩
theorem rpAll_at {K : PySem.W.Frag} {vs : List V} {ds : List D} {i : Nat} {v : V} (r : RpAll K Hs vs ds) (h : vs[i]? = some v) : ∃ x, ds[i]? = some x ∧ Rp K Hs v x := by
  have hl : i < ds.length := by
    rw [← r.length]
    exact (List.getElem?_eq_some_iff.mp h).1
  obtain ⟨w, w1, w2⟩ := r.get (List.getElem?_eq_getElem hl)
  rw [h] at w1
  cases w1
  exact ⟨_, List.getElem?_eq_getElem hl, w2⟩
def evI (Φ : Orc) (ik : IK) (its : Es) (env : Env) (τ : Tp) : R (List D) := (evA Φ its env τ).bind fun rs env τ => of? (shareAll env rs) fun p => of? (dats p.1) fun ds => of? (itemsD ik ds) fun xs => .ok xs p.2 τ
def PIt (c : Fc) (pend : List (Addr × List D)) (σ : L2.St) : List D → Env → Tp → It → Hp → Hp → Prop := fun xs env τ J H Hs => Stt c env pend τ σ H Hs ∧ WD c Hs J xs
def tI (Φ : Orc) (c : Fc) (W : WX) (ik : IK) (its : Es) : TI := fun σ H R => ∃ env pend τ Hs, Stt c env pend τ σ H Hs ∧ PRd c W σ (PIt c pend σ) Hs (evI Φ ik its env τ) R
theorem pi_imp {tg x : Expr} {t t' : TI} (h : PI X tg x t) (i : ∀ σ H Q, t' σ H Q → t σ H Q) : PI X tg x t' := ⟨fun pins s σ H Q I q => h.run pins s σ H Q I (i σ H Q q)⟩
/-- a list or a tuple, walked -/
def iSeq (K : PySem.W.Frag) (te : TE) : TI := fun σ H R => te σ H fun x H1 => ∃ a, x = .ref a ∧ (((∃ xs, SqL K H1 a xs) ∧ R (Itl K a) H1) ∨ ((∃ xs, SqT K H1 a xs) ∧ R (Itt K a) H1))
theorem pi_seq {tg l : Expr} {tl : TE} (hl : PE X l tl) : PI X tg l (iSeq X.K tl) := by
  refine ⟨fun pins s σ H R I h => ?_⟩
  refine thn (hl.run pins s σ H _ I h) fun v s1 ⟨x, H1, I1, r1, q1⟩ => ?_
  obtain ⟨a, e, q1⟩ := q1
  subst e
  cases r1
  rcases q1 with ⟨⟨xs, hq⟩, q⟩ | ⟨⟨xs, hq⟩, q⟩
  · obtain ⟨its, rv, p, hz⟩ := I1.list hq
    refine wpAny_pyIter_list p.isList ?_
    refine ⟨s1.heap.objs.size, [s1.heap.objs.size], _, _, H1, rfl, I1.kept (t' := s1.toks) fun b o e => Heap.get?_push_of_some _ e, turn_list a _, ⟨_, Heap.get?_push_size _ rfl, rfl, rfl⟩, fun b hb => ?_, q⟩
    have e : b = s1.heap.objs.size := by simpa using hb
    subst e
    exact I1.fpOk (Nat.le_refl _) (I1.hok.fresh (Nat.le_refl _))
  · obtain ⟨its, rv, p, hz⟩ := I1.tuple hq
    refine wpAny_pyIter_tuple (show s1.heap.IsTuple a its.toArray from p) ?_
    refine ⟨s1.heap.objs.size, [s1.heap.objs.size], _, _, H1, rfl, I1.kept (t' := s1.toks) fun b o e => Heap.get?_push_of_some _ e, turn_tuple a _, ⟨_, Heap.get?_push_size _ rfl, rfl, rfl⟩, fun b hb => ?_, q⟩
    have e : b = s1.heap.objs.size := by simpa using hb
    subst e
    exact I1.fpOk (Nat.le_refl _) (I1.hok.fresh (Nat.le_refl _))
/-- from the arguments' reading -/
theorem it_args {ik : IK} {its : Es} {σ : L2.St} {H : Hp} {R : It → Hp → Prop} {Q' : List V → Hp → Prop} (h : tI Φ c W ik its σ H R)
    (k : ∀ env pend τ H' Hs' vs ds xs, Stt c env pend τ σ H' Hs' → RpAll c.K Hs' vs ds → itemsD ik ds = some xs → (∀ J, WD c Hs' J xs → R J H') → Q' vs H') : tA Φ c W its σ H Q' := by
  obtain ⟨env, pend, τ, Hs, s, h⟩ := h
  refine ⟨env, pend, τ, Hs, s, prd_bind h fun rs env1 τ1 vs H1 Hs1 e1 p1 h1 => ?_⟩
  obtain ⟨s1, b1⟩ := p1
  obtain ⟨p, hp, h2⟩ := prd_of h1
  obtain ⟨Hs2, e2, s2, k2⟩ := shareAll_ok s1 b1 hp
  obtain ⟨ds, hd, h3⟩ := prd_of h2
  obtain ⟨xs, hx, h4⟩ := prd_of h3
  exact k p.2 pend τ1 H1 Hs2 vs ds xs s2 (dats_ok k2 hd) hx fun J w => h4 J H1 Hs2 e2 ⟨s2, w⟩
theorem pe1_args {e : E} {σ : L2.St} {H : Hp} {Q : List V → Hp → Prop} (h : tA Φ c W (.cons e .nil) σ H Q) : tE Φ c W e σ H fun v H1 => (∀ env pend τ Hs, Stt c env pend τ σ H1 Hs → True) → Q [v] H1 := by
  obtain ⟨env, pend, τ, Hs, s, h⟩ := h
  refine ⟨env, pend, τ, Hs, s, opnd h fun rv env1 τ1 v H1 Hs1 e1 s1 b1 h1 _ => ?_⟩
  exact h1 [v] H1 Hs1 (Sub.refl _) ⟨s1, .cons b1 .nil⟩
end
end Dv

set_option Elab.async false
set_option linter.all false
set_option maxRecDepth 100000
set_option maxHeartbeats 2000000
/-! Dv11: iterators' forms, comprehensions. -/
namespace Dv
open PySem PySem.Spec PyProof.Rows L2
theorem R.assoc {α β γ : Type} (r : R α) (f : α → Env → Tp → R β) (k : β → Env → Tp → R γ) : (r.bind f).bind k = r.bind fun a e t => (f a e t).bind k := by
  cases r <;> rfl
theorem of_bind {α β γ : Type} (o : Option α) (f : α → R β) (k : β → Env → Tp → R γ) : (of? o f).bind k = of? o fun a => (f a).bind k := by
  cases o <;> rfl
section
variable {X : Cx} {c : Fc} {W : WX} {Φ : Orc} {g : Sig} {env : Env} {pend : List (Addr × List D)} {τ : Tp} {σ : L2.St} {H H' Hs Hs' : Hp} {v u : V} {x y : D}
theorem seqOf_wd (G : Good X W c Φ g) {a : Addr} {d : D} {xs : List D} (s : Stt c env pend τ σ H Hs) (r : Rp c.K Hs (.ref a) d) (h : seqOf d = some xs) :
    ((∃ vs, SqL X.K H a vs) ∧ WD c Hs (Itl X.K a) xs) ∨ ((∃ vs, SqT X.K H a vs) ∧ WD c Hs (Itt X.K a) xs) := by
  rw [G.hK]
  unfold seqOf at h
  split at h
  · cases h
    cases r with
    | lst h1 h2 =>
      refine .inl ⟨⟨_, SqL.of (s.core.sub _ _ h1)⟩, wd_same walk_list h2.length.symm (fun H k => SqL.of (k _ _ h1)) fun i H v H' Hs' hi k _ y => ⟨y.1, ?_⟩⟩
      obtain ⟨x, h3, h4⟩ := rpAll_at h2 y.2
      exact ⟨x, h3, h4.sub k⟩
  · cases h
    cases r with
    | tup h1 h2 =>
      refine .inr ⟨⟨_, sub_t s.core.sub h1⟩, wd_same walk_tup h2.length.symm (fun H k => sub_t k h1) fun i H v H' Hs' hi k _ y => ⟨y.1, ?_⟩⟩
      obtain ⟨x, h3, h4⟩ := rpAll_at h2 y.2
      exact ⟨x, h3, h4.sub k⟩
  · cases h
theorem seqOf_sq {a : Addr} {d : D} {xs : List D} (r : Rp c.K Hs (.ref a) d) (h : seqOf d = some xs) : ∃ (k : Bool) (vs : List V), SqA k c.K Hs a vs ∧ RpAll c.K Hs vs xs := by
  unfold seqOf at h
  split at h
  · cases h
    cases r with
    | lst h1 h2 => exact ⟨_, _, (show SqA false c.K Hs a _ from SqL.of h1), h2⟩
  · cases h
    cases r with
    | tup h1 h2 => exact ⟨_, _, (show SqA true c.K Hs a _ from h1), h2⟩
  · cases h
theorem seqOf_ref {w : V} {d : D} {xs : List D} (r : Rp c.K Hs w d) (h : seqOf d = some xs) : ∃ a, w = .ref a := by
  cases r <;> first | exact ⟨_, rfl⟩ | cases h
/-- one argument, as a value -/
theorem it_one {ik : IK} {e : E} {σ : L2.St} {H : Hp} {R : It → Hp → Prop} {Q' : V → Hp → Prop} (h : tI Φ c W ik (.cons e .nil) σ H R)
    (k : ∀ env pend τ H' Hs' v d xs, Stt c env pend τ σ H' Hs' → Rp c.K Hs' v d → itemsD ik [d] = some xs → (∀ J, WD c Hs' J xs → R J H') → Q' v H') : tE Φ c W e σ H Q' := by
  obtain ⟨env, pend, τ, Hs, s, h⟩ := h
  refine ⟨env, pend, τ, Hs, s, ?_⟩
  unfold evI at h
  simp only [evA, Dv.R.assoc] at h
  refine opnd h fun rv env1 τ1 v H1 Hs1 e1 s1 b1 h1 => ?_
  obtain ⟨p, hp, h2⟩ := prd_of (show PRd c W σ _ Hs1 (of? (shareAll env1 [unfr rv]) _) _ from h1)
  obtain ⟨Hs2, e2, s2, k2⟩ := shareAll_ok s1 (.cons b1 .nil) hp
  obtain ⟨ds, hd, h3⟩ := prd_of h2
  obtain ⟨xs, hx, h4⟩ := prd_of h3
  have r := dats_ok k2 hd
  cases r with
  | cons r1 r2 =>
    cases r2
    exact k p.2 pend τ1 H1 Hs2 v _ xs s2 r1 hx fun J w => h4 J H1 Hs2 e2 ⟨s2, w⟩
theorem i_seq (G : Good X W c Φ g) {tg : Expr} {e : E} {e' : Expr} (he : PE X e' (tE Φ c W e)) : PI X tg e' (tI Φ c W .seq (.cons e .nil)) := by
  refine pi_imp (pi_seq he) fun σ H R h => it_one h fun env pend τ H1 Hs1 v d xs s r hx k => ?_
  have hx' : seqOf d = some xs := hx
  obtain ⟨a, rfl⟩ := seqOf_ref r hx'
  rcases seqOf_wd G s r hx' with ⟨h1, h2⟩ | ⟨h1, h2⟩
  · exact ⟨a, rfl, .inl ⟨h1, k _ h2⟩⟩
  · exact ⟨a, rfl, .inr ⟨h1, k _ h2⟩⟩
theorem rangeD_len (lo : Int) (n : Nat) : (rangeD lo n).length = n := by simp [rangeD]
theorem rangeD_get {lo : Int} {n i : Nat} (h : i < n) : (rangeD lo n)[i]? = some (.int (lo + i)) := by simp [rangeD, h]
theorem wd_range (lo : Int) (n : Nat) : WD c Hs (Itr lo n) (rangeD lo n) :=
  wd_same walk_range (rangeD_len lo n) (fun _ _ => trivial) fun i H v H' Hs' hi _ _ y => ⟨y.1, .int (lo + i), rangeD_get hi, by rw [y.2]; exact .int _⟩
theorem small62_iff {i : Int} (h : small62 i = true) : -(2 ^ 62) ≤ i ∧ i < 2 ^ 62 := by
  rw [small62_eq] at h
  rw [Bool.and_eq_true] at h
  exact ⟨of_decide_eq_true h.1, of_decide_eq_true h.2⟩
theorem i_range1 (G : Good X W c Φ g) {tg : Expr} {its : Es} {a : Expr} {p pos : Pos} (hg : Gl X "range") (ha : PA X [a] (tA Φ c W its)) (hs : starEach [a] X.env = [(false, eval a X.env)]) : PI X tg (.Call (.Name "range" p) [a] [] pos) (tI Φ c W .range1 its) := by
  refine pi_imp (pi_range1 hg (G.blt _ (by simp [bltNames])) ha hs) fun σ H R h => it_args h fun env pend τ H1 Hs1 vs ds xs s r hx k => ?_
  unfold itemsD at hx
  split at hx
  all_goals first
    | (rename_i h1; cases h1; done)
    | (cases hx; done)
    | skip
  rename_i n _
  split at hx
  · rename_i hn
    cases hx
    cases r with
    | cons r1 r2 =>
      cases r1
      cases r2
      have q := small62_iff hn
      exact ⟨_, rfl, q.1, q.2, k _ (wd_range 0 n.toNat)⟩
  · cases hx
theorem i_range2 (G : Good X W c Φ g) {tg : Expr} {its : Es} {a b : Expr} {p pos : Pos} (hg : Gl X "range") (ha : PA X [a, b] (tA Φ c W its)) (hs : starEach [a, b] X.env = [(false, eval a X.env), (false, eval b X.env)]) (hs2 : starEach [b] X.env = [(false, eval b X.env)]) : PI X tg (.Call (.Name "range" p) [a, b] [] pos) (tI Φ c W .range2 its) := by
  refine pi_imp (pi_range2 hg (G.blt _ (by simp [bltNames])) ha hs hs2) fun σ H R h => it_args h fun env pend τ H1 Hs1 vs ds xs s r hx k => ?_
  unfold itemsD at hx
  split at hx
  all_goals first
    | (rename_i h1; cases h1; done)
    | (cases hx; done)
    | skip
  rename_i n m _
  split at hx
  · rename_i hn
    rw [Bool.and_eq_true] at hn
    cases hx
    cases r with
    | cons r1 r2 =>
      cases r1
      cases r2 with
      | cons r1 r2 =>
        cases r1
        cases r2
        have q := small62_iff hn.1
        have q2 := small62_iff hn.2
        exact ⟨_, _, rfl, ⟨q.1, q.2, q2.1, q2.2⟩, k _ (wd_range n (m - n).toNat)⟩
  · cases hx
theorem zipD_len : ∀ xs ys : List D, (zipD xs ys).length = min xs.length ys.length
  | [], _ => by simp [zipD]
  | _ :: _, [] => by simp [zipD]
  | x :: xs, y :: ys => by
    simp only [zipD, List.length_cons, zipD_len xs ys]
    omega
theorem zipD_get : ∀ {xs ys : List D} {i : Nat} {x y : D}, xs[i]? = some x → ys[i]? = some y → (zipD xs ys)[i]? = some (.tuple [x, y])
  | [], _, _, _, _, h, _ => by simp at h
  | _ :: _, [], _, _, _, _, h => by simp at h
  | a :: xs, b :: ys, 0, x, y, h1, h2 => by
    simp at h1 h2
    subst h1 h2
    simp [zipD]
  | a :: xs, b :: ys, i + 1, x, y, h1, h2 => by
    have := zipD_get (i := i) (by simpa using h1) (by simpa using h2)
    simpa [zipD] using this
theorem enumD_len : ∀ (xs : List D) (n : Nat), (enumD n xs).length = xs.length
  | [], _ => rfl
  | x :: xs, n => congrArg (· + 1) (enumD_len xs (n + 1))
theorem enumD_get : ∀ {xs : List D} {n i : Nat} {x : D}, xs[i]? = some x → (enumD n xs)[i]? = some (.tuple [.int ((n + i : Nat) : Int), x])
  | [], _, _, _, h => by simp at h
  | a :: xs, n, 0, x, h => by
    simp at h
    subst h
    simp [enumD]
  | a :: xs, n, i + 1, x, h => by
    have := enumD_get (n := n + 1) (i := i) (by simpa using h)
    simp only [enumD, List.getElem?_cons_succ, this]
    congr 5
    omega
theorem i_zip (G : Good X W c Φ g) {its : Es} {a b : Expr} {p pos tpos : Pos} {elts : List Expr} {kk : Nat} (hg : Gl X "zip") (ha : PA X [a, b] (tA Φ c W its)) (hs : starEach [a, b] X.env = (false, eval a X.env) :: starEach [b] X.env) (hpl : (backTo pos (starEach [b] X.env)).any (·.1) = false) : PI X (.Tuple elts kk tpos) (.Call (.Name "zip" p) [a, b] [] pos) (tI Φ c W .zip its) := by
  refine pi_imp (pi_zipAny hg (G.blt _ (by simp [bltNames])) ha hs hpl) fun σ H R h => it_args h fun env pend τ H1 Hs1 vs ds xs s r hx k => ?_
  unfold itemsD at hx
  split at hx
  all_goals first
    | (rename_i h1; cases h1; done)
    | (cases hx; done)
    | skip
  rename_i d e
  obtain ⟨as, h1, hx⟩ := Option.bind_eq_some_iff.mp hx
  obtain ⟨bs, h2, rfl⟩ := Option.map_eq_some_iff.mp hx
  cases r with
  | cons r1 r2 =>
    cases r2 with
    | cons r2 r3 =>
      cases r3
      obtain ⟨p1, rfl⟩ := seqOf_ref r1 h1
      obtain ⟨p2, rfl⟩ := seqOf_ref r2 h2
      obtain ⟨k1, us, q1, q2⟩ := seqOf_sq r1 h1
      obtain ⟨k2, ws, q3, q4⟩ := seqOf_sq r2 h2
      refine ⟨p1, p2, k1, k2, us, ws, rfl, by rw [G.hK]; exact q1.sub s.core.sub, by rw [G.hK]; exact q3.sub s.core.sub, k _ ?_⟩
      rw [G.hK]
      refine wd_pair (walk_zipAny rfl) (by rw [zipD_len, q2.length, q4.length]) (fun H k => ⟨q1.sub k, q3.sub k⟩) fun i a b hi ea eb => ?_
      obtain ⟨x, x1, x2⟩ := rpAll_at q2 ea
      obtain ⟨y, y1, y2⟩ := rpAll_at q4 eb
      exact ⟨x, y, zipD_get x1 y1, x2, y2⟩
theorem i_enum (G : Good X W c Φ g) {its : Es} {a : Expr} {p pos tpos : Pos} {elts : List Expr} {kk : Nat} (hg : Gl X "enumerate") (ha : PA X [a] (tA Φ c W its)) (hs : starEach [a] X.env = (false, eval a X.env) :: starEach [] X.env) : PI X (.Tuple elts kk tpos) (.Call (.Name "enumerate" p) [a] [] pos) (tI Φ c W .enum its) := by
  refine pi_imp (pi_enumAny hg (G.blt _ (by simp [bltNames])) ha hs) fun σ H R h => it_args h fun env pend τ H1 Hs1 vs ds xs s r hx k => ?_
  unfold itemsD at hx
  split at hx
  all_goals first
    | (rename_i h1; cases h1; done)
    | (cases hx; done)
    | skip
  obtain ⟨as, h1, rfl⟩ := Option.map_eq_some_iff.mp hx
  cases r with
  | cons r1 r2 =>
    cases r2
    obtain ⟨p1, rfl⟩ := seqOf_ref r1 h1
    obtain ⟨k1, us, q1, q2⟩ := seqOf_sq r1 h1
    refine ⟨p1, k1, us, rfl, by rw [G.hK]; exact q1.sub s.core.sub, k _ ?_⟩
    rw [G.hK]
    refine wd_pair walk_enumA (by rw [enumD_len, q2.length]) (fun H k => q1.sub k) fun i a b hi ea eb => ?_
    cases ea
    obtain ⟨y, y1, y2⟩ := rpAll_at q2 eb
    exact ⟨_, y, by rw [enumD_get y1, Nat.zero_add], .int _, y2⟩
theorem i_rev (G : Good X W c Φ g) {tg : Expr} {e : E} {e' : Expr} {p pos : Pos} (hg : Gl X "reversed") (he : PE X e' (tE Φ c W e)) (hs : starEach [e'] X.env = (false, eval e' X.env) :: starEach [] X.env) : PI X tg (.Call (.Name "reversed" p) [e'] [] pos) (tI Φ c W .rev (.cons e .nil)) := by
  refine pi_imp (RT.pi_revA hg (G.blt _ (by simp [bltNames])) he hs) fun σ H R h => it_one h fun env pend τ H1 Hs1 v d xs s r hx k => ?_
  obtain ⟨as, h1, rfl⟩ := Option.map_eq_some_iff.mp (show (seqOf d).map List.reverse = some xs from hx)
  obtain ⟨p1, rfl⟩ := seqOf_ref r h1
  rw [G.hK]
  have fin : ∀ {us : List V} {J : It} {G0 : Hp → Prop}, RpAll c.K Hs1 us as → (∀ i H, i < us.length → G0 H → J.go i H) → (∀ H, G0 H → J.stop us.length H) → (∀ i H x H', i < us.length → G0 H → J.yld i H x H' → H' = H ∧ us[us.length - 1 - i]? = some x) → (∀ H, Sub Hs1 H → G0 H) → WD c Hs1 J as.reverse := by
    intro us J G0 q2 a1 a2 a3 a4
    have hl := q2.length
    refine ⟨fun i H hi h => a1 i H (by rw [hl]; simpa using hi) (a4 H h), fun H h => by rw [List.length_reverse, ← hl]; exact a2 H (a4 H h), fun i H v H' env pend τ σ Hs' hi h s y => ?_⟩
    have hi' : i < us.length := by rw [hl]; simpa using hi
    obtain ⟨rfl, hy⟩ := a3 i H v H' hi' (a4 H (h.trans s.core.sub)) y
    obtain ⟨x, x1, x2⟩ := rpAll_at q2 hy
    refine ⟨Hs', x, Sub.refl _, s, ?_, x2.sub h⟩
    rw [List.getElem?_reverse (by omega), ← hl]
    exact x1
  unfold seqOf at h1
  split at h1
  · cases h1
    cases r with
    | lst r1 r2 =>
      refine ⟨p1, _, rfl, .inl ⟨SqL.of (s.core.sub _ _ r1), k _ ?_⟩⟩
      have w := walk_rev (K := c.K) (a := p1) (xs := ‹List V›)
      exact fin r2 w.goes w.stops w.yields (fun H k => SqL.of (k _ _ r1))
  · cases h1
    cases r with
    | tup r1 r2 =>
      refine ⟨p1, _, rfl, .inr ⟨sub_t s.core.sub r1, k _ ?_⟩⟩
      rename_i us
      refine fin (J := RT.ItvT c.K p1 us.length) (G0 := fun H => SqT c.K H p1 us) r2 (fun i H hi q => ⟨hi, us, us[us.length - 1 - i]'(by omega), q, by simp [show us.length - 1 - i < us.length by omega]⟩) (fun _ _ => Nat.le_refl _) (fun _ _ _ _ _ q y => ⟨y.1, y.2 us q⟩) (fun H k => sub_t k r1)
  · cases h1
/-! ### comprehensions -/
theorem wipeE_len (env : Env) : ∀ vs, (wipeE env vs).length = env.length
  | [] => rfl
  | v :: vs => by
    unfold wipeE
    rw [List.length_set, wipeE_len env vs]
theorem wipeE_not (env : Env) {i : Nat} : ∀ {vs : List Nat}, i ∉ vs → (wipeE env vs)[i]? = env[i]?
  | [], _ => rfl
  | v :: vs, h => by
    rw [List.mem_cons, not_or] at h
    unfold wipeE
    rw [List.getElem?_set_ne (Ne.symm h.1), wipeE_not env h.2]
theorem backE_len (env0 env : Env) : ∀ vs, (backE env0 env vs).length = env.length
  | [] => rfl
  | v :: vs => by
    unfold backE
    rw [List.length_set, backE_len env0 env vs]
theorem backE_not (env0 env : Env) {i : Nat} : ∀ {vs : List Nat}, i ∉ vs → (backE env0 env vs)[i]? = env[i]?
  | [], _ => rfl
  | v :: vs, h => by
    rw [List.mem_cons, not_or] at h
    unfold backE
    rw [List.getElem?_set_ne (Ne.symm h.1), backE_not env0 env h.2]
theorem backE_in (env0 env : Env) {i : Nat} {z : Sl} : ∀ {vs : List Nat}, i ∈ vs → (backE env0 env vs)[i]? = some (some z) → env0[i]? = some (some z)
  | v :: vs, h, e => by
    unfold backE at e
    by_cases hi : i = v
    · subst hi
      by_cases hl : i < (backE env0 env vs).length
      · rw [List.getElem?_set_self hl] at e
        have e' := Option.some.inj e
        cases q : env0[i]? with
        | none =>
          rw [q] at e'
          cases e'
        | some w =>
          rw [q] at e'
          exact congrArg some e'
      · rw [List.getElem?_eq_none (by rw [List.length_set]; omega)] at e
        cases e
    · rw [List.getElem?_set_ne (Ne.symm hi)] at e
      rcases List.mem_cons.mp h with h | h
      · exact absurd h hi
      · exact backE_in env0 env h e
theorem noOwn_at {env : Env} {vs : List Nat} (h : noOwn env vs = true) {i : Nat} (hi : i ∈ vs) {xs : List D} : env[i]? ≠ some (some (Sl.own xs)) := fun e => by
  have q := (List.all_eq_true.mp h) i hi
  rw [e] at q
  cases q
theorem Stt.back {env0 env' : Env} {pend0 : List (Addr × List D)} {τ0 : Tp} {H0 Hs0 : Hp} {vs : List Nat} (s0 : Stt c env0 pend0 τ0 σ H0 Hs0) (hn : noOwn env0 vs = true) (e : Sub Hs0 Hs) (s : Stt c (wipeE env' vs) pend τ (L2.wipe σ vs) H Hs) : Stt c (backE env0 env' vs) pend τ σ H Hs := by
  have own_out : ∀ i (xs : List D), (backE env0 env' vs)[i]? = some (some (Sl.own xs)) → i ∉ vs ∧ (wipeE env' vs)[i]? = some (some (Sl.own xs)) := fun i xs h => by
    by_cases hi : i ∈ vs
    · exact absurd (backE_in env0 env' hi h) (noOwn_at hn hi)
    · rw [backE_not env0 env' hi] at h
      rw [wipeE_not env' hi]
      exact ⟨hi, h⟩
  have wp : ∀ {i}, i ∉ vs → (L2.wipe σ vs)[i]? = σ[i]? := fun {i} hi => by rw [wipe_get, if_neg hi]
  refine ⟨s.core, ?_, fun i z hz => ?_, fun i j xs ys a a1 a2 a3 a4 => ?_, s.pnd, fun p hp i xs hi => ?_, s.pdup⟩
  · have := s.len
    rw [wipeE_len, wipe_length] at this
    rw [backE_len]
    exact this
  · by_cases hi : i ∈ vs
    · have h0 := backE_in env0 env' hi hz
      cases z with
      | own xs => exact absurd h0 (noOwn_at hn hi)
      | sh z =>
        obtain ⟨u, h1, h2⟩ := s0.slot i _ h0
        exact ⟨u, h1, h2.sub e⟩
    · rw [backE_not env0 env' hi, ← wipeE_not env' hi] at hz
      have q := s.slot i z hz
      rw [wp hi] at q
      exact q
  · obtain ⟨n1, b1⟩ := own_out i xs a1
    obtain ⟨n2, b2⟩ := own_out j ys a2
    rw [← wp n1] at a3
    rw [← wp n2] at a4
    exact s.inj i j xs ys a b1 b2 a3 a4
  · obtain ⟨n1, b1⟩ := own_out i xs hi
    rw [← wp n1]
    exact s.pno p hp i xs b1
/-- a pending list changes -/
theorem Stt.mutPend {a : Addr} {xs xs' : List D} {vs' : List V} (s : Stt c env ((a, xs) :: pend) τ σ H Hs) (r : RpAll c.K Hs vs' xs') : Stt c env ((a, xs') :: pend) τ σ (upd H a (.lst vs')) Hs := by
  have o := s.pnd _ List.mem_cons_self
  have nd := s.pdup
  rw [List.map_cons, List.nodup_cons] at nd
  refine ⟨s.core.mut o, s.len, fun i z hz => ?_, s.inj, fun p hp => ?_, fun p hp i ys hi => ?_, ?_⟩
  · have q := s.slot i z hz
    cases z with
    | sh z => exact q
    | own ys =>
      obtain ⟨b, z1, z2⟩ := q
      exact ⟨b, z1, z2.grow (Sub.refl _) z2.nHs (upd_ne (fun e => s.pno _ List.mem_cons_self i ys hz (by rw [z1, e])))⟩
  · rcases List.mem_cons.mp hp with rfl | hp
    · exact ⟨⟨vs', upd_same, r⟩, o.nHs, o.nH0, o.nT⟩
    · refine (s.pnd p (List.mem_cons_of_mem _ hp)).grow (Sub.refl _) (s.pnd p (List.mem_cons_of_mem _ hp)).nHs (upd_ne (fun e => nd.1 (List.mem_map.mpr ⟨p, hp, e⟩)))
  · rcases List.mem_cons.mp hp with rfl | hp
    · exact s.pno _ List.mem_cons_self i ys hi
    · exact s.pno p (List.mem_cons_of_mem _ hp) i ys hi
  · rw [List.map_cons, List.nodup_cons]
    exact nd
def W0 : WX := fun _ _ _ _ => False
theorem comp_evI {elt : E} {tg : Tg} {ik : IK} {its : Es} {cond : T} {own : List (Str × Nat)} : ev Φ (.comp elt tg ik its cond own) env τ = (evI Φ ik its env τ).bind fun xs env τ =>
    if noOwn env (own.map (·.2)) && okLen xs.length then (compLoop (ev Φ elt) (evT Φ cond) tg (own.map (·.2)) xs [] env τ).bind fun ys env' τ' => .ok (.fr ys) (backE env env' (own.map (·.2))) τ' else .stuck := by
  unfold evI
  rw [ev, Dv.R.assoc]
  congr 1
  funext rs env τ
  rw [of_bind]
  congr 1
  funext p
  rw [of_bind]
  congr 1
  funext ds
  rw [of_bind]
  rfl
theorem comp_step {elt : E} {tg : Tg} {cond : T} {vs : List Nat} {xs : List D} {J : It} {σ : L2.St} {H1 Hs1 : Hp} {Q : VK} (htg : ∀ i ∈ tgIx tg, i ∈ vs) (s : Stt c env pend τ σ H1 Hs1) (w : WD c Hs1 J xs) (hn : noOwn env vs = true) (hl : okLen xs.length = true)
    (h : PRd c W σ (PV c pend σ) Hs1 ((compLoop (ev Φ elt) (evT Φ cond) tg vs xs [] env τ).bind fun ys env' τ' => .ok (.fr ys) (backE env env' vs) τ') Q) {D : Addr} (hD : H1 D = none) :
    ∃ W : Nat → Nat → Hp → Prop, (∃ m, W 0 m (upd H1 D (.lst []))) ∧ ∀ i m H, W i m H →
      (J.stop i H ∧ Q (.ref D) H) ∨ (J.go i H ∧ ∃ Nx : Hp → Prop, (∀ H', Nx H' → ∃ m', m' < m ∧ W (i + 1) m' H') ∧ ∀ x H', J.yld i H x H' → tG c tg x (L2.wipe σ vs) H' fun σ2 H2 => L2.wipe σ2 vs = L2.wipe σ vs ∧ tT Φ c W0 cond σ2 H2 fun b H3 =>
        if b = true then tE Φ c W0 elt σ2 H3 fun y H4 => ∃ acc, H4 D = some (.lst acc) ∧ acc.length < sizeLine ∧ Nx (upd H4 D (.lst (acc ++ [y]))) else Nx H3) := by
  let Pv : Nat → Hp → Prop := fun i H => ∃ env' τ' Hs' acc, Sub Hs1 Hs' ∧ Stt c (wipeE env' vs) ((D, acc) :: pend) τ' (L2.wipe σ vs) H Hs' ∧ acc.length ≤ i ∧
    compLoop (ev Φ elt) (evT Φ cond) tg vs xs [] env τ = compLoop (ev Φ elt) (evT Φ cond) tg vs (xs.drop i) acc env' τ'
  refine ⟨fun i m H => m = xs.length - i ∧ i ≤ xs.length ∧ Pv i H, ⟨xs.length, rfl, Nat.zero_le _, env, τ, Hs1, [], Sub.refl _, (s.newList hD .nil).wipe vs, Nat.le_refl _, rfl⟩, ?_⟩
  rintro i m H ⟨rfl, hi, env', τ', Hs', acc, e', s', hacc, eq⟩
  by_cases hlt : i < xs.length
  · refine .inr ⟨w.goes i H hlt (e'.trans s'.core.sub), Pv (i + 1), fun H' p => ⟨xs.length - (i + 1), by omega, rfl, hlt, p⟩, fun x H2 y => ?_⟩
    obtain ⟨Hs2, d, e2, s2, hd, r2⟩ := w.yields i H x H2 _ _ _ _ Hs' hlt e' s' y
    have hdrop : xs.drop i = d :: xs.drop (i + 1) := by
      rw [List.drop_eq_getElem_cons hlt]
      congr 1
      rw [List.getElem?_eq_getElem hlt] at hd
      exact Option.some.inj hd
    rw [hdrop] at eq
    cases ht : setTg tg d (wipeE env' vs) with
    | none =>
      rw [compLoop, ht] at eq
      rw [eq] at h
      exact h.elim
    | some env2 =>
      refine ⟨wipeE env' vs, _, τ', Hs2, d, env2, s2, r2, ht, fun σ2 al s3 => ?_⟩
      have hw : L2.wipe σ2 vs = L2.wipe σ vs := (wipe_alike al htg).trans (wipe_wipe vs σ)
      refine ⟨hw, env2, _, τ', Hs2, s3, ?_⟩
      cases hb : evT Φ cond env2 τ' with
      | stuck =>
        simp only [compLoop, ht, hb] at eq
        rw [eq] at h
        exact h.elim
      | err cl τ3 =>
        simp only [compLoop, ht, hb] at eq
        rw [eq] at h
        exact h.elim
      | ok b env3 τ3 =>
        intro b' H3 Hs3 e3 p3
        obtain ⟨rfl, s4⟩ := p3
        cases b' with
        | false =>
          simp only [compLoop, ht, hb] at eq
          rw [if_neg (by decide)]
          refine ⟨env3, τ3, Hs3, acc, e'.trans (e2.trans e3), ?_, Nat.le_succ_of_le hacc, eq⟩
          have := s4.wipe vs
          rw [hw] at this
          exact this
        | true =>
          rw [if_pos rfl]
          refine ⟨env3, _, τ3, Hs3, s4, ?_⟩
          cases he : ev Φ elt env3 τ3 with
          | stuck =>
            simp only [compLoop, ht, hb, he] at eq
            rw [eq] at h
            exact h.elim
          | err cl τ4 =>
            simp only [compLoop, ht, hb, he] at eq
            rw [eq] at h
            exact h.elim
          | ok rv env4 τ4 =>
            intro v H4 Hs4 e4 p4
            simp only [compLoop, ht, hb, he] at eq
            cases hsh : share env4 rv with
            | none =>
              simp only [hsh] at eq
              rw [eq] at h
              exact h.elim
            | some q =>
              obtain ⟨va, env5⟩ := q
              cases va with
              | tp =>
                simp only [hsh] at eq
                rw [eq] at h
                exact h.elim
              | d yd =>
                simp only [hsh] at eq
                obtain ⟨Hs5, e5, s5, k5⟩ := post_share p4 hsh
                obtain ⟨vs4, v1, v2⟩ := (s5.pnd _ List.mem_cons_self).at_
                have hlen : vs4.length < sizeLine := by
                  have e1 : vs4.length = acc.length := v2.length
                  rw [e1]
                  have := of_decide_eq_true hl
                  have := sizeLine_eq
                  omega
                refine ⟨vs4, v1, hlen, env5, τ4, Hs5, acc ++ [yd], e'.trans (e2.trans (e3.trans (e4.trans e5))), ?_, by simp; omega, eq⟩
                have := (s5.mutPend (v2.append (.cons k5 .nil))).wipe vs
                rw [hw] at this
                exact this
  · have ei : i = xs.length := by omega
    subst ei
    rw [List.drop_length] at eq
    simp only [compLoop] at eq
    rw [eq] at h
    exact .inl ⟨w.stops H (e'.trans s'.core.sub), h (.ref D) H Hs' e' ⟨D, rfl, s.back hn e' s'⟩⟩
theorem c_comp (G : Good X W c Φ g) {elt : E} {tg : Tg} {ik : IK} {its : Es} {cond : T} {own : List (Str × Nat)} {elt' tg' iter' : Expr} {ifs' : List Expr} {scope : Scope} {pos : Pos} (hi : PI X tg' iter' (tI Φ c W ik its)) (ok : BlkOk X.N X.env.scope scope own)
    (hg : ∀ (s : Shared) (H : Hp) (C : Addr) (cl : List (Str × Addr)) (fp : List Addr), PG (X.blk s H scope (compEnvC scope cl C X.env) fp) tg' (tG c tg)) (ht : ∀ (s : Shared) (H : Hp) (C : Addr) (cl : List (Str × Addr)) (fp : List Addr), PTs (X.blk s H scope (compEnvC scope cl C X.env) fp) ifs' (tT Φ c W0 cond))
    (he : ∀ (s : Shared) (H : Hp) (C : Addr) (cl : List (Str × Addr)) (fp : List Addr), PE (X.blk s H scope (compEnvC scope cl C X.env) fp) elt' (tE Φ c W0 elt)) (htg : ∀ i ∈ tgIx tg, i ∈ own.map (·.2)) (hs : ∀ x, foldedSetIterable iter' X.env x = pure x) :
    PE X (.ListComp elt' [⟨tg', iter', ifs', 0⟩] scope pos) (tE Φ c W (.comp elt tg ik its cond own)) := by
  refine pe_imp (pe_lc G.calm G.nd hi ok hg ht he hs) fun σ H Q ⟨env, pend, τ, Hs, s, h⟩ => ⟨env, pend, τ, Hs, s, ?_⟩
  rw [comp_evI] at h
  refine prd_bind h fun xs env1 τ1 J H1 Hs1 e1 p1 h1 => ?_
  obtain ⟨s1, w⟩ := p1
  split at h1
  · rename_i hc
    rw [Bool.and_eq_true] at hc
    exact fun D hD => comp_step htg s1 w hc.1 hc.2 h1 hD
  · exact h1.elim
end
end Dv

set_option Elab.async false
set_option linter.all false
set_option maxRecDepth 100000
set_option maxHeartbeats 2000000
/-! Dv12: statements. -/
namespace Dv
open PySem PySem.Spec PyProof.Rows L2
/-- what is wanted behind a statement -/
def SRd (c : Fc) (W : WX) (Hs : Hp) (r : SR) (D : Ends) : Prop := match r with
  | .nx env τ => ∀ σ' H' Hs', Sub Hs Hs' → Stt c env [] τ σ' H' Hs' → D.nx σ' H'
  | .brk env τ => ∀ σ' H' Hs', Sub Hs Hs' → Stt c env [] τ σ' H' Hs' → D.bk σ' H'
  | .cnt env τ => ∀ σ' H' Hs', Sub Hs Hs' → Stt c env [] τ σ' H' Hs' → D.ct σ' H'
  | .ret v τ => ∀ u H' Hs', Sub Hs Hs' → Core c τ H' Hs' → VaOk c Hs' u v → D.rt u H'
  | .err cl τ => ∀ C σ' H' Hs', c.mg cl = some (.ref C) → Core c τ H' Hs' → W (.ref C) none σ' H'
  | .stuck => False
structure ExAt (X : Cx) (x : Str) : Prop where
  ex : ∃ (C : Addr) (bmB : List Value) (B newId initId : String), ExcBaseFacts B newId initId bmB ∧ PySem.W.excIn X.K C bmB newId = true ∧ X.mg x = some (.ref C) ∧ PySem.W.keepIn X.K (.ref C) = true ∧ Raises X (.ref C) ∧ PySem.W.exmOne X.K (.ref C) (.ref C) = some true
structure GoodS (X : Cx) (W : WX) (c : Fc) (Φ : Orc) (g : Sig) : Prop where
  good : Good X W c Φ g
  pass : PassesOwn (model X.prog X.w) X.A X.env X.xe
  exc : ∀ x ∈ g.exc, ExAt X x
  stk : X.stack = X.env :: X.outer
  frm : X.env.frame = some X.env.locals
section
variable (Φ : Orc) (c : Fc) (W : WX)
def tS (s : S) : TS := fun D σ H => ∃ env τ Hs, Stt c env [] τ σ H Hs ∧ SRd c W Hs (ex Φ s env τ) D
def tSs (s : Ss) : TS := fun D σ H => ∃ env τ Hs, Stt c env [] τ σ H Hs ∧ SRd c W Hs (exs Φ s env τ) D
end
theorem ps_imp {X : Cx} {x : Stmt} {t t' : TS} (h : PS X x t) (i : ∀ D σ H, t' D σ H → t D σ H) : PS X x t' := ⟨fun pins s σ H D I q => h.run pins s σ H D I (i D σ H q)⟩
theorem pss_imp {X : Cx} {x : List Stmt} {t t' : TS} (h : PSs X x t) (i : ∀ D σ H, t' D σ H → t D σ H) : PSs X x t' := ⟨fun pins s σ H D I q => h.run pins s σ H D I (i D σ H q)⟩
section
variable {X : Cx} {c : Fc} {W : WX} {Φ : Orc} {g : Sig} {env : Env} {pend : List (Addr × List D)} {τ : Tp} {σ : L2.St} {H H' Hs Hs' : Hp} {v u : V} {x y : D}
theorem SRd.mono {r : SR} {D : Ends} (h : SRd c W Hs r D) (e : Sub Hs Hs') : SRd c W Hs' r D := by
  cases r with
  | nx env τ => exact fun σ' H' H2 e2 p => h σ' H' H2 (e.trans e2) p
  | brk env τ => exact fun σ' H' H2 e2 p => h σ' H' H2 (e.trans e2) p
  | cnt env τ => exact fun σ' H' H2 e2 p => h σ' H' H2 (e.trans e2) p
  | ret v τ => exact fun u H' H2 e2 p k => h u H' H2 (e.trans e2) p k
  | err cl τ => exact h
  | stuck => exact h
theorem st_bind {α β : Type} {P : α → Env → Tp → β → Hp → Hp → Prop} {r : R α} {f : α → Env → Tp → SR} {D : Ends} {Q : β → Hp → Prop} (h : SRd c W Hs (r.st f) D)
    (k : ∀ a env τ b H' Hs', Sub Hs Hs' → P a env τ b H' Hs' → SRd c W Hs' (f a env τ) D → Q b H') : PRd c W σ P Hs r Q := by
  cases r with
  | ok a env τ => exact fun b H' Hs2 e2 p => k a env τ b H' Hs2 e2 p (SRd.mono (r := f a env τ) h e2)
  | err cl τ => exact fun C H' Hs' hC K => h C σ H' Hs' hC K
  | stuck => exact h
theorem srd_of {α : Type} {o : Option α} {f : α → SR} {D : Ends} (h : SRd c W Hs (ofS o f) D) : ∃ a, o = some a ∧ SRd c W Hs (f a) D := by
  cases o with
  | none => exact h.elim
  | some a => exact ⟨a, rfl, h⟩
/-- a result goes into slot i -/
theorem slot_ok {rv : Rv} {z : Sl} {env' : Env} {i : Nat} (p : Post c env [] τ σ rv v H Hs) (h : slotOf env rv = some (z, env')) : ∃ Hs', Sub Hs Hs' ∧ Stt c (env'.set i (some z)) [] τ (σ.set i (some v)) H Hs' := by
  cases rv with
  | fr xs =>
    cases h
    obtain ⟨a, rfl, s⟩ := p
    exact ⟨Hs, Sub.refl _, s.setOwn⟩
  | sh w =>
    obtain ⟨q, hq, e⟩ := Option.map_eq_some_iff.mp (show (share env (.sh w)).map (fun p => (Sl.sh p.1, p.2)) = some (z, env') from h)
    cases e
    obtain ⟨Hs1, e1, s1, k1⟩ := share_ok p.1 p.2 hq
    exact ⟨Hs1, e1, s1.setSh k1⟩
  | br w =>
    obtain ⟨q, hq, e⟩ := Option.map_eq_some_iff.mp (show (share env (.br w)).map (fun p => (Sl.sh p.1, p.2)) = some (z, env') from h)
    cases e
    obtain ⟨Hs1, e1, s1, k1⟩ := share_ok p.1 p.2 hq
    exact ⟨Hs1, e1, s1.setSh k1⟩
theorem set_step {i : Nat} {e : E} {D : Ends} {σ : L2.St} {H : Hp} (h : tS Φ c W (.set i e) D σ H) : tE Φ c W e σ H fun x H1 => D.nx (σ.set i (some x)) H1 := by
  obtain ⟨env, τ, Hs, s, h⟩ := h
  refine ⟨env, [], τ, Hs, s, st_bind h fun rv env1 τ1 v H1 Hs1 e1 p h1 => ?_⟩
  obtain ⟨q, hq, h2⟩ := srd_of h1
  obtain ⟨Hs2, e2, s2⟩ := slot_ok (i := i) p hq
  exact h2 _ _ _ e2 s2
theorem s_set (G : GoodS X W c Φ g) {i : Nat} {n : Str} {e : E} {e' : Expr} {pos pos' : Pos} (hi : X.N[i]? = some n) (hx : Loc X.env.scope n) (he : PE X e' (tE Φ c W e)) (hs : swapsWith e' (some (.Name n pos')) pos.line X.env = pure false) (hf : X.fn n = true ∨ X.env.scope.names.lookup n = some .local) :
    PS X (.Assign [.Name n pos'] e' pos) (tS Φ c W (.set i e)) :=
  ps_imp (ps_set G.good.nd hi hx he hs hf) fun D σ H h => set_step h
/-- name = [..], the name a local, on one line -/
theorem s_setC (G : GoodS X W c Φ g) {i : Nat} {n : Str} {elt : E} {tg : Tg} {ik : IK} {its : Es} {cond : T} {own : List (Str × Nat)} {elt' tg' iter' : Expr} {ifs' : List Expr} {scope : Scope} {pos spos py : Pos} (hi : X.N[i]? = some n) (hx : X.env.scope.names.lookup n = some .local)
    (hsw : swapsWith (.ListComp elt' [⟨tg', iter', ifs', 0⟩] scope pos) (some (.Name n py)) spos.line X.env = pure true) (hit : PI X tg' iter' (tI Φ c W ik its)) (ok : BlkOk X.N X.env.scope scope own)
    (hg : ∀ (s : Shared) (H : Hp) (C : Addr) (cl : List (Str × Addr)) (fp : List Addr), PG (X.blk s H scope (compEnvC scope cl C X.env) fp) tg' (tG c tg)) (ht : ∀ (s : Shared) (H : Hp) (C : Addr) (cl : List (Str × Addr)) (fp : List Addr), PTs (X.blk s H scope (compEnvC scope cl C X.env) fp) ifs' (tT Φ c W0 cond))
    (he : ∀ (s : Shared) (H : Hp) (C : Addr) (cl : List (Str × Addr)) (fp : List Addr), PE (X.blk s H scope (compEnvC scope cl C X.env) fp) elt' (tE Φ c W0 elt)) (htg : ∀ i ∈ tgIx tg, i ∈ own.map (·.2)) (hs : ∀ x, foldedSetIterable iter' X.env x = pure x) :
    PS X (.Assign [.Name n py] (.ListComp elt' [⟨tg', iter', ifs', 0⟩] scope pos) spos) (tS Φ c W (.set i (.comp elt tg ik its cond own))) := by
  refine ps_imp (ps_setLc G.good.calm G.good.nd hi hx hsw hit ok hg ht he hs) fun D σ H h => ?_
  obtain ⟨env, pend, τ, Hs, s, h⟩ := set_step h
  rw [comp_evI] at h
  refine ⟨env, pend, τ, Hs, s, prd_bind h fun xs env1 τ1 J H1 Hs1 e1 p1 h1 => ?_⟩
  obtain ⟨s1, w⟩ := p1
  split at h1
  · rename_i hc
    rw [Bool.and_eq_true] at hc
    exact fun D hD => comp_step htg s1 w hc.1 hc.2 h1 hD
  · exact h1.elim
/-! ### several names at once -/
inductive SlsB (c : Fc) (Hs : Hp) : List V → List Sl → List (Addr × List D) → Prop
  | nil : SlsB c Hs [] [] []
  | sh {v : V} {x : Va} {vs : List V} {ss : List Sl} {ps : List (Addr × List D)} : VaOk c Hs v x → SlsB c Hs vs ss ps → SlsB c Hs (v :: vs) (.sh x :: ss) ps
  | own {a : Addr} {xs : List D} {vs : List V} {ss : List Sl} {ps : List (Addr × List D)} : SlsB c Hs vs ss ps → SlsB c Hs (.ref a :: vs) (.own xs :: ss) ((a, xs) :: ps)
theorem Stt.perm {pend' : List (Addr × List D)} (s : Stt c env pend τ σ H Hs) (p : pend.Perm pend') : Stt c env pend' τ σ H Hs :=
  ⟨s.core, s.len, s.slot, s.inj, fun q hq => s.pnd q (p.mem_iff.mpr hq), fun q hq => s.pno q (p.mem_iff.mpr hq), (p.map (·.1)).nodup_iff.mp s.pdup⟩
def PP (c : Fc) (pend : List (Addr × List D)) (σ : L2.St) : List Sl → Env → Tp → List V → Hp → Hp → Prop := fun ss env τ vs H Hs => ∃ ps, Stt c env (ps ++ pend) τ σ H Hs ∧ SlsB c Hs vs ss ps
def tP (Φ : Orc) (c : Fc) (W : WX) (es : Es) : TA := fun σ H Q => ∃ env pend τ Hs, Stt c env pend τ σ H Hs ∧ PRd c W σ (PP c pend σ) Hs (evP Φ es env τ) Q
theorem p_nil : PA X [] (tP Φ c W .nil) := pa_imp pa_nil fun σ H Q ⟨env, pend, τ, Hs, s, h⟩ => h [] H Hs (Sub.refl _) ⟨[], s, .nil⟩
theorem p_cons {e : E} {es : Es} {e' : Expr} {es' : List Expr} (ha : PE X e' (tE Φ c W e)) (hr : PA X es' (tP Φ c W es)) (hs : starEach (e' :: es') X.env = (false, eval e' X.env) :: starEach es' X.env) : PA X (e' :: es') (tP Φ c W (.cons e es)) := by
  refine pa_imp (pa_cons ha hr hs) fun σ H Q ⟨env, pend, τ, Hs, s, h⟩ => ⟨env, pend, τ, Hs, s, prd_bind h fun rv env1 τ1 v H1 Hs1 e1 p1 h1 => ?_⟩
  obtain ⟨q, hq, h2⟩ := prd_of h1
  have shc : ∀ {w : Va} {env2 : Env}, Post c env1 pend τ1 σ rv v H1 Hs1 → share env1 rv = some (w, env2) → q = (Sl.sh w, env2) → tP Φ c W es σ H1 fun vs H2 => Q (v :: vs) H2 := by
    intro w env2 p1 hw eq
    subst eq
    obtain ⟨Hs2, e2, s2, k2⟩ := post_share p1 hw
    refine ⟨env2, pend, τ1, Hs2, s2, prd_bind (h2.mono e2) fun ss env3 τ3 vs H3 Hs3 e3 p3 h3 => ?_⟩
    obtain ⟨ps, s3, b3⟩ := p3
    exact h3 (v :: vs) H3 Hs3 (Sub.refl _) ⟨ps, s3, .sh (k2.sub e3) b3⟩
  cases rv with
  | fr xs =>
    cases hq
    obtain ⟨a, rfl, s1⟩ := p1
    refine ⟨env1, _, τ1, Hs1, s1, prd_bind h2 fun ss env3 τ3 vs H3 Hs3 e3 p3 h3 => ?_⟩
    obtain ⟨ps, s3, b3⟩ := p3
    exact h3 (.ref a :: vs) H3 Hs3 (Sub.refl _) ⟨(a, xs) :: ps, s3.perm (List.perm_middle), .own b3⟩
  | sh w =>
    obtain ⟨p, hp, e⟩ := Option.map_eq_some_iff.mp (show (share env1 (.sh w)).map (fun p => (Sl.sh p.1, p.2)) = some q from hq)
    exact shc p1 hp e.symm
  | br w =>
    obtain ⟨p, hp, e⟩ := Option.map_eq_some_iff.mp (show (share env1 (.br w)).map (fun p => (Sl.sh p.1, p.2)) = some q from hq)
    exact shc p1 hp e.symm
/-- the names' slots, from the left -/
def setsV : List Nat → List V → L2.St → L2.St
  | i :: is, v :: vs, σ => setsV is vs (σ.set i (some v))
  | _, _, σ => σ
def setsE : List Nat → List Sl → Env → Env
  | i :: is, s :: ss, env => setsE is ss (env.set i (some s))
  | _, _, env => env
theorem sets_ok : ∀ {is : List Nat} {vs : List V} {ss : List Sl} {ps : List (Addr × List D)} {env : Env} {σ : L2.St}, Stt c env (ps ++ pend) τ σ H Hs → SlsB c Hs vs ss ps → is.length = vs.length → Stt c (setsE is ss env) pend τ (setsV is vs σ) H Hs
  | [], _, _, _, _, _, s, b, h => by
    cases b <;> first | exact s | cases h
  | i :: is, _, _, _, _, _, s, b, h => by
    cases b with
    | nil => cases h
    | sh k b =>
      unfold setsE setsV
      exact sets_ok (s.setSh k) b (by simpa using h)
    | own b =>
      unfold setsE setsV
      exact sets_ok (s.setOwn) b (by simpa using h)
theorem setsE_set : ∀ {is : List Nat} {ss : List Sl} {i : Nat} {z : Option Sl} {env : Env}, i ∉ is → setsE is ss (env.set i z) = (setsE is ss env).set i z
  | [], _, _, _, _, _ => by unfold setsE; rfl
  | j :: is, [], _, _, _, _ => by unfold setsE; rfl
  | j :: is, s :: ss, i, z, env, h => by
    rw [List.mem_cons, not_or] at h
    unfold setsE
    rw [List.set_comm _ _ h.1, setsE_set h.2]
theorem setAll_sets : ∀ {is : List Nat} {ss : List Sl} {env env' : Env}, is.Nodup → setAll is ss env = some env' → env' = setsE is ss env ∧ ss.length = is.length
  | [], [], _, _, _, h => by
    cases h
    exact ⟨rfl, rfl⟩
  | i :: is, s :: ss, env, env', n, h => by
    obtain ⟨e1, h1, rfl⟩ := Option.map_eq_some_iff.mp h
    rw [List.nodup_cons] at n
    obtain ⟨rfl, l⟩ := setAll_sets n.2 h1
    refine ⟨?_, congrArg (· + 1) l⟩
    show _ = setsE is ss (env.set i (some s))
    rw [setsE_set n.1]
  | [], _ :: _, _, _, _, h => by cases h
  | _ :: _, [], _, _, _, h => by cases h
theorem SlsB.len {vs : List V} {ss : List Sl} {ps : List (Addr × List D)} (b : SlsB c Hs vs ss ps) : vs.length = ss.length := by
  induction b with
  | nil => rfl
  | sh _ _ ih => exact congrArg (· + 1) ih
  | own _ ih => exact congrArg (· + 1) ih
theorem par_step {is : List Nat} {es : Es} {D : Ends} {σ : L2.St} {H : Hp} (nd : is.Nodup) (h : tS Φ c W (.par is es) D σ H) : tP Φ c W es σ H fun vs H1 => vs.length = is.length ∧ (∀ p, H1 p = none → D.nx (setsV is vs σ) (upd H1 p (.tup vs))) ∧ D.nx (setsV is vs σ) H1 := by
  obtain ⟨env, τ, Hs, s, h⟩ := h
  refine ⟨env, [], τ, Hs, s, st_bind h fun ss env1 τ1 vs H1 Hs1 e1 p h1 => ?_⟩
  obtain ⟨ps, s1, b⟩ := p
  obtain ⟨env2, h2, h3⟩ := srd_of h1
  obtain ⟨rfl, l⟩ := setAll_sets nd h2
  have hl : is.length = vs.length := by rw [b.len, l]
  have s2 : Stt c (setsE is ss env1) [] τ1 (setsV is vs σ) H1 Hs1 := sets_ok s1 b hl
  refine ⟨hl.symm, fun p n => ?_, h3 _ _ _ (Sub.refl _) s2⟩
  refine h3 _ _ Hs1 (Sub.refl _) ⟨s2.core.grow n, s2.len, fun i z hz => ?_, s2.inj, (fun q hq => nomatch hq), (fun q hq => nomatch hq), s2.pdup⟩
  have q := s2.slot i z hz
  cases z with
  | sh z => exact q
  | own xs =>
    obtain ⟨a, q1, q2⟩ := q
    exact ⟨a, q1, q2.new n⟩
theorem s_par2 (G : GoodS X W c Φ g) {i j : Nat} {n m : Str} {es : Es} {a b : Expr} {pn pm pt pos pt2 : Pos} {kt k2 : Nat} (hi : X.N[i]? = some n) (hj : X.N[j]? = some m) (hij : i ≠ j) (hx : X.env.scope.names.lookup n = some .local) (hy : X.env.scope.names.lookup m = some .local) (ha : PA X [a, b] (tP Φ c W es))
    (hw : swappedStores [.Tuple [.Name n pn, .Name m pm] kt pt] (.Tuple [a, b] k2 pt2) X.env = pure (some [n, m]))
    (hs : swapsWithSole [.Tuple [.Name n pn, .Name m pm] kt pt] (.Tuple [a, b] k2 pt2) pos.line X.env = pure false) :
    PS X (.Assign [.Tuple [.Name n pn, .Name m pm] kt pt] (.Tuple [a, b] k2 pt2) pos) (tS Φ c W (.par [i, j] es)) := by
  refine ps_imp (ps_par G.good.calm G.good.nd hi hj hij hx hy ha hw hs) fun D σ H h => ?_
  obtain ⟨env, pend, τ, Hs, s, h⟩ := par_step (by simp [hij]) h
  refine ⟨env, pend, τ, Hs, s, ?_⟩
  cases hr : evP Φ es env τ with
  | ok ss env1 τ1 =>
    rw [hr] at h
    intro vs H' Hs' e p
    obtain ⟨l, _, k⟩ := h vs H' Hs' e p
    match vs, l with
    | [v, w], _ => exact ⟨v, w, rfl, k⟩
  | err cl τ1 =>
    rw [hr] at h
    exact h
  | stuck =>
    rw [hr] at h
    exact h
theorem s_par3 (G : GoodS X W c Φ g) {i j l : Nat} {n m o : Str} {es : Es} {a b d : Expr} {pn pm po pt pos pt2 : Pos} {kt k2 : Nat} (hi : X.N[i]? = some n) (hj : X.N[j]? = some m) (hl : X.N[l]? = some o) (hij : i ≠ j) (hil : i ≠ l) (hjl : j ≠ l) (hx : X.env.scope.names.lookup n = some .local) (hy : X.env.scope.names.lookup m = some .local) (hz : X.env.scope.names.lookup o = some .local) (ha : PA X [a, b, d] (tP Φ c W es))
    (hw : swappedStores [.Tuple [.Name n pn, .Name m pm, .Name o po] kt pt] (.Tuple [a, b, d] k2 pt2) X.env = pure (some [n, m, o]))
    (hs : swapsWithSole [.Tuple [.Name n pn, .Name m pm, .Name o po] kt pt] (.Tuple [a, b, d] k2 pt2) pos.line X.env = pure false) :
    PS X (.Assign [.Tuple [.Name n pn, .Name m pm, .Name o po] kt pt] (.Tuple [a, b, d] k2 pt2) pos) (tS Φ c W (.par [i, j, l] es)) := by
  refine ps_imp (ps_par3 G.good.calm G.good.nd hi hj hl hij hil hjl hx hy hz ha hw hs) fun D σ H h => ?_
  obtain ⟨env, pend, τ, Hs, s, h⟩ := par_step (by simp [hij, hil, hjl]) h
  refine ⟨env, pend, τ, Hs, s, ?_⟩
  cases hr : evP Φ es env τ with
  | ok ss env1 τ1 =>
    rw [hr] at h
    intro vs H' Hs' e p
    obtain ⟨l, _, k⟩ := h vs H' Hs' e p
    match vs, l with
    | [v, w, z], _ => exact ⟨v, w, z, rfl, k⟩
  | err cl τ1 =>
    rw [hr] at h
    exact h
  | stuck =>
    rw [hr] at h
    exact h
/-- names, as one target -/
def gNames : List Nat → TGs
  | [] => gNil
  | i :: is => gCons (gName i) (gNames is)
theorem gNames_run : ∀ {is : List Nat} {vs : List V} {σ : L2.St} {H : Hp} {Q : L2.St → Hp → Prop}, vs.length = is.length → Q (setsV is vs σ) H → gNames is vs σ H Q
  | [], vs, σ, H, Q, l, q => by
    cases vs with
    | nil => exact ⟨rfl, q⟩
    | cons _ _ => cases l
  | i :: is, vs, σ, H, Q, l, q => by
    cases vs with
    | nil => cases l
    | cons v vs => exact ⟨v, vs, rfl, gNames_run (by simpa using l) q⟩
/-- the same by a tuple that is made and taken apart -/
theorem s_parU (G : GoodS X W c Φ g) {is : List Nat} {es : Es} {ts as : List Expr} {kt k2 : Nat} {pt pt2 pos : Pos} (nd : is.Nodup) (hl : is.length ≤ 100) (ha : PA X as (tP Φ c W es)) (hg : PGs X ts (gNames is)) (hn : (assignEach ts X.env).length = is.length) (hst : (assignEach ts X.env).findIdx? (·.1) = none)
    (hs : swapsWithSole [.Tuple ts kt pt] (.Tuple as k2 pt2) pos.line X.env = pure false) (hw : swappedStores [.Tuple ts kt pt] (.Tuple as k2 pt2) X.env = pure none) (h1 : (assignEach [.Tuple ts kt pt] X.env).map (·.2) = [assign (.Tuple ts kt pt) X.env]) :
    PS X (.Assign [.Tuple ts kt pt] (.Tuple as k2 pt2) pos) (tS Φ c W (.par is es)) := by
  refine ps_imp (ps_asg (pe_tup ha) (pg_tup G.good.calm hg hn hst) hs hw h1) fun D σ H h => ?_
  obtain ⟨env, pend, τ, Hs, s, h⟩ := par_step nd h
  refine ⟨env, pend, τ, Hs, s, ?_⟩
  cases hr : evP Φ es env τ with
  | ok ss env1 τ1 =>
    rw [hr] at h
    intro vs H' Hs' e p
    obtain ⟨l, k, _⟩ := h vs H' Hs' e p
    refine ⟨by rw [l, sizeLine_eq]; omega, fun p n => ⟨p, vs, rfl, SqT.of upd_same, l, gNames_run l (k p n)⟩⟩
  | err cl τ1 =>
    rw [hr] at h
    exact h
  | stuck =>
    rw [hr] at h
    exact h
/-! ### other stores -/
theorem s_unp (G : GoodS X W c Φ g) {tg : Tg} {e : E} {tg' e' : Expr} {pos : Pos} (he : PE X e' (tE Φ c W e)) (hg : PG X tg' (tG c tg)) (hs : swapsWithSole [tg'] e' pos.line X.env = pure false) (hw : swappedStores [tg'] e' X.env = pure none) (h1 : (assignEach [tg'] X.env).map (·.2) = [assign tg' X.env]) :
    PS X (.Assign [tg'] e' pos) (tS Φ c W (.unp tg e)) := by
  refine ps_imp (ps_asg he hg hs hw h1) fun D σ H ⟨env, τ, Hs, s, h⟩ => ⟨env, [], τ, Hs, s, st_bind h fun rv env1 τ1 v H1 Hs1 e1 p h1 => ?_⟩
  obtain ⟨q, hq, h2⟩ := srd_of h1
  obtain ⟨va, env2⟩ := q
  obtain ⟨Hs2, e2, s2, k2⟩ := post_share p hq
  cases va with
  | tp => exact h2.elim
  | d x =>
    obtain ⟨env3, h3, h4⟩ := srd_of h2
    exact ⟨env2, [], τ1, Hs2, x, env3, s2, k2, h3, fun σ' _ s' => h4 σ' _ Hs2 e2 s'⟩
theorem lookD_br {i : Nat} {x : D} (s : Stt c env pend τ σ H Hs) (h : lookD env (.br i) = some x) : ∃ v, σ[i]? = some (some v) ∧ RpB c.K H Hs v x := by
  have h0 : ∃ z, env[i]? = some (some z) := by
    unfold lookD look at h
    dsimp only at h
    split at h
    · rename_i hw
      split at hw
      · rename_i hv
        exact ⟨_, hv⟩
      · rename_i hv
        exact ⟨_, hv⟩
      · cases hw
    · cases h
  obtain ⟨z, hz⟩ := h0
  have q := s.slot i z hz
  have hv : ∃ v, σ[i]? = some (some v) := by
    cases z with
    | sh z =>
      obtain ⟨u, q1, _⟩ := q
      exact ⟨u, q1⟩
    | own xs =>
      obtain ⟨a, q1, _⟩ := q
      exact ⟨_, q1⟩
  obtain ⟨v, hv⟩ := hv
  exact ⟨v, hv, look_ok (r := .br i) s hv h⟩
theorem s_aug (G : GoodS X W c Φ g) {i : Nat} {n : Str} {o : BO} {e : E} {e' : Expr} {pos pos' : Pos} (hi : X.N[i]? = some n) (hx : Loc X.env.scope n) (he : PE X e' (tE Φ c W e)) (ho : o = .add ∨ o = .sub) (hf : X.fn n = true ∨ X.env.scope.names.lookup n = some .local) :
    PS X (.AugAssign (.Name n pos') (opOf o) e' pos) (tS Φ c W (.aug i o e)) := by
  rcases ho with rfl | rfl
  · refine ps_imp (ps_aug G.good.nd hi hx he ip_add hf) fun D σ H ⟨env, τ, Hs, s, h⟩ => ?_
    unfold ex at h
    split at h
    · rename_i x hx
      obtain ⟨v, hv, kv⟩ := lookD_br s hx
      refine ⟨v, hv, env, [], τ, Hs, s, st_bind h fun rv env1 τ1 w H1 Hs1 e1 p h1 => ?_⟩
      obtain ⟨Hs2, e2, s2, b2⟩ := post_unfr p
      obtain ⟨y, hy, h2⟩ := srd_of h1
      have kw := look_ok s2 b2 hy
      split at h2
      · rename_i heq
        cases heq
        rw [rpB_int kv, rpB_int kw]
        exact ⟨_, _, rfl, rfl, h2 _ _ Hs2 e2 (s2.setSh (.int _))⟩
      · rename_i heq
        cases heq
      · exact h2.elim
    · exact h.elim
  · refine ps_imp (ps_aug G.good.nd hi hx he ip_sub hf) fun D σ H ⟨env, τ, Hs, s, h⟩ => ?_
    unfold ex at h
    split at h
    · rename_i x hx
      obtain ⟨v, hv, kv⟩ := lookD_br s hx
      refine ⟨v, hv, env, [], τ, Hs, s, st_bind h fun rv env1 τ1 w H1 Hs1 e1 p h1 => ?_⟩
      obtain ⟨Hs2, e2, s2, b2⟩ := post_unfr p
      obtain ⟨y, hy, h2⟩ := srd_of h1
      have kw := look_ok s2 b2 hy
      split at h2
      · rename_i heq
        cases heq
      · rename_i heq
        cases heq
        rw [rpB_int kv, rpB_int kw]
        exact ⟨_, _, rfl, rfl, h2 _ _ Hs2 e2 (s2.setSh (.int _))⟩
      · exact h2.elim
    · exact h.elim
theorem s_setIx (G : GoodS X W c Φ g) {i : Nat} {n : Str} {ix e : E} {ix' e' : Expr} {pos pn ps : Pos} (hi : X.N[i]? = some n) (hv : Vis X.env.scope n) (hd : (n == ("__debug__" : Str)) = false) (hcd : (n == ("__classdict__" : Str)) = false) (hix : PE X ix' (tE Φ c W ix)) (he : PE X e' (tE Φ c W e))
    (ha : ∀ v, assign (.Subscript (.Name n pn) ix' ps) X.env v = (do
      let ov ← holding [v] (eval (.Name n pn) X.env)
      let iv ← holding [v, ov] (eval ix' X.env)
      standAt ps
      holding [v, ov, iv] (setItem ov iv v)
      release [v, ov, iv] []))
    (hs : swapsWithSole [.Subscript (.Name n pn) ix' ps] e' pos.line X.env = pure false) (hw : swappedStores [.Subscript (.Name n pn) ix' ps] e' X.env = pure none) (h1 : (assignEach [.Subscript (.Name n pn) ix' ps] X.env).map (·.2) = [assign (.Subscript (.Name n pn) ix' ps) X.env]) :
    PS X (.Assign [.Subscript (.Name n pn) ix' ps] e' pos) (tS Φ c W (.setIx i ix e)) := by
  refine ps_imp (ps_asg he (pg_sub (pe_var hi hv hd hcd) hix set_list ha) hs hw h1) fun D σ H ⟨env, τ, Hs, s, h⟩ => ⟨env, [], τ, Hs, s, st_bind h fun rv env1 τ1 v H1 Hs1 e1 p h1 => ?_⟩
  obtain ⟨q, hq, h2⟩ := srd_of h1
  obtain ⟨va, env2⟩ := q
  obtain ⟨Hs2, e2, s2, k2⟩ := post_share p hq
  split at h2
  · rename_i ys hy
    obtain ⟨a, q1, _⟩ := s2.slot i _ hy
    refine ⟨_, q1, env2, [], τ1, Hs2, s2, st_bind (h2.mono e2) fun rv3 env3 τ3 u H3 Hs3 e3 p3 h3 => ?_⟩
    obtain ⟨Hs4, e4, s4, b4⟩ := post_unfr p3
    split at h3
    · rename_i xs k x h5 h6 hx
      obtain ⟨j, hj, h7⟩ := srd_of h3
      obtain ⟨a', vs, r1, r2, r3⟩ := own_var s4 h5
      rw [q1] at r1
      cases r1
      refine ⟨a, vs, k, j, rfl, rpB_int (look_ok s4 b4 h6), r2, by rw [r3.length]; exact hj, ?_⟩
      have k2' : VaOk c Hs2 v (.d x) := by
        have e : va = .d x := hx
        rw [← e]
        exact k2
      exact h7 _ _ Hs4 e4 (s4.mut h5 q1 (r3.set (k2'.sub (e3.trans e4)) j))
    · exact h3.elim
  · exact h2.elim
/-! ### methods as statements -/
theorem s_append (G : GoodS X W c Φ g) {i : Nat} {n : Str} {e : E} {e' : Expr} {p apos cpos pos : Pos} (hN : X.N[i]? = some n) (hv : Vis X.env.scope n) (hd : (n == ("__debug__" : Str)) = false) (hcd : (n == ("__classdict__" : Str)) = false) (hline : (apos.endLine == cpos.line) = true) (he : PE X e' (tE Φ c W e))
    (hfew : ((backTo cpos (starEach [e'] X.env)).all (fun x => !x.1) && (backToKw cpos (keywordEach [] X.env)).all (fun x => x.1.isSome) && decide (([e'] : List Expr).length + ([] : List Keyword).length + (if ([] : List Keyword).isEmpty then 0 else 1) < 30)) = true)
    (hs : starEach [e'] X.env = (false, eval e' X.env) :: starEach [] X.env) (hw : swapsWith (.Call (.Attribute (.Name n p) "append" apos) [e'] [] cpos) none pos.line X.env = pure false) :
    PS X (.Expr (.Call (.Attribute (.Name n p) "append" apos) [e'] [] cpos) pos) (tS Φ c W (.append i e)) := by
  refine ps_imp (ps_expr (pe_bm PySem.F.plainAttrs_list PySem.F.slot_list_append PySem.F.type_list_append mt_append (pe_var (i := i) hN hv hd hcd) (pa_cons he pa_nil hs) rfl hfew hline hs rfl) hw) fun D σ H ⟨env, τ, Hs, s, h⟩ => ?_
  unfold ex at h
  split at h
  · rename_i xs hx
    obtain ⟨a, vs, q1, h1, h2⟩ := own_var s hx
    refine ⟨_, q1, .inl ⟨rfl, vs, SqL.of h1⟩, env, [], τ, Hs, s, st_bind h fun rv env1 τ1 w H1 Hs1 e1 p1 h3 => ?_⟩
    obtain ⟨q, hq, h4⟩ := srd_of h3
    obtain ⟨va, env2⟩ := q
    obtain ⟨Hs2, e2, s2, k2⟩ := post_share p1 hq
    split at h4
    · rename_i ys y hy hva
      split at h4
      · rename_i hl
        obtain ⟨a', us, r1, r2, r3⟩ := own_var s2 hy
        rw [q1] at r1
        cases r1
        have k2' : VaOk c Hs2 w (.d y) := by
          have e : va = .d y := hva
          rw [← e]
          exact k2
        exact ⟨a, us, w, rfl, rfl, r2, by rw [r3.length]; exact okLen_lt hl, h4 _ _ Hs2 e2 (s2.mut hy q1 (r3.append (.cons k2' .nil)))⟩
      · exact h4.elim
    · exact h4.elim
  · exact h.elim
theorem s_extend (G : GoodS X W c Φ g) {i : Nat} {n : Str} {e : E} {e' : Expr} {p apos cpos pos : Pos} (hN : X.N[i]? = some n) (hv : Vis X.env.scope n) (hd : (n == ("__debug__" : Str)) = false) (hcd : (n == ("__classdict__" : Str)) = false) (hline : (apos.endLine == cpos.line) = true) (he : PE X e' (tE Φ c W e))
    (hfew : ((backTo cpos (starEach [e'] X.env)).all (fun x => !x.1) && (backToKw cpos (keywordEach [] X.env)).all (fun x => x.1.isSome) && decide (([e'] : List Expr).length + ([] : List Keyword).length + (if ([] : List Keyword).isEmpty then 0 else 1) < 30)) = true)
    (hs : starEach [e'] X.env = (false, eval e' X.env) :: starEach [] X.env) (hw : swapsWith (.Call (.Attribute (.Name n p) "extend" apos) [e'] [] cpos) none pos.line X.env = pure false) :
    PS X (.Expr (.Call (.Attribute (.Name n p) "extend" apos) [e'] [] cpos) pos) (tS Φ c W (.extend i e)) := by
  refine ps_imp (ps_expr (pe_bm PySem.F.plainAttrs_list PySem.F.slot_list_extend PySem.F.type_list_extend mt_extend (pe_var (i := i) hN hv hd hcd) (pa_cons he pa_nil hs) rfl hfew hline hs rfl) hw) fun D σ H ⟨env, τ, Hs, s, h⟩ => ?_
  unfold ex at h
  split at h
  · rename_i xs hx
    obtain ⟨a, vs, q1, h1, h2⟩ := own_var s hx
    refine ⟨_, q1, .inl ⟨rfl, vs, SqL.of h1⟩, env, [], τ, Hs, s, st_bind h fun rv env1 τ1 w H1 Hs1 e1 p1 h3 => ?_⟩
    obtain ⟨q, hq, h4⟩ := srd_of h3
    obtain ⟨va, env2⟩ := q
    obtain ⟨Hs2, e2, s2, k2⟩ := post_share p1 hq
    split at h4
    · rename_i ys zs hy hva
      split at h4
      · rename_i hl
        obtain ⟨a', us, r1, r2, r3⟩ := own_var s2 hy
        rw [q1] at r1
        cases r1
        have k2' : VaOk c Hs2 w (.d (.list zs)) := by
          have e : va = .d (.list zs) := hva
          rw [← e]
          exact k2
        have k3 : Rp c.K Hs2 w (.list zs) := k2'
        cases k3 with
        | lst z1 z2 =>
          exact ⟨a, _, us, _, rfl, rfl, r2, s2.core.sub _ _ z1, by rw [r3.length, z2.length]; exact okLen_le hl, h4 _ _ Hs2 e2 (s2.mut hy q1 (r3.append z2))⟩
      · exact h4.elim
    · exact h4.elim
  · exact h.elim
theorem s_expr (G : GoodS X W c Φ g) {e : E} {e' : Expr} {pos : Pos} (he : PE X e' (tE Φ c W e)) (hs : swapsWith e' none pos.line X.env = pure false) : PS X (.Expr e' pos) (tS Φ c W (.expr e)) := by
  refine ps_imp (ps_expr he hs) fun D σ H ⟨env, τ, Hs, s, h⟩ => ⟨env, [], τ, Hs, s, st_bind h fun rv env1 τ1 v H1 Hs1 e1 p h1 => ?_⟩
  obtain ⟨Hs2, e2, s2, _⟩ := post_unfr p
  exact h1 _ _ Hs2 e2 s2
/-! ### ways out -/
theorem s_ret (G : GoodS X W c Φ g) {e : E} {e' : Expr} {pos : Pos} (he : PE X e' (tE Φ c W e)) : PS X (.Return (some e') pos) (tS Φ c W (.ret e)) := by
  refine ps_imp (ps_ret he) fun D σ H ⟨env, τ, Hs, s, h⟩ => ⟨env, [], τ, Hs, s, st_bind h fun rv env1 τ1 v H1 Hs1 e1 p h1 => ?_⟩
  obtain ⟨q, hq, h2⟩ := srd_of h1
  obtain ⟨Hs2, e2, s2, k2⟩ := post_share p hq
  exact h2 v H1 Hs2 e2 s2.core k2
theorem s_retN {pos : Pos} : PS X (.Return none pos) (tS Φ c W .retN) :=
  ps_imp ps_retN fun D σ H ⟨env, τ, Hs, s, h⟩ => h .non H Hs (Sub.refl _) s.core .non
theorem s_pass {pos : Pos} : PS X (.Pass pos) (tS Φ c W .pass) := ps_imp ps_pass fun D σ H ⟨env, τ, Hs, s, h⟩ => h σ H Hs (Sub.refl _) s
theorem s_brk {pos : Pos} : PS X (.Break pos) (tS Φ c W .brk) := ps_imp ps_break fun D σ H ⟨env, τ, Hs, s, h⟩ => h σ H Hs (Sub.refl _) s
theorem s_cnt {pos : Pos} : PS X (.Continue pos) (tS Φ c W .cnt) := ps_imp ps_continue fun D σ H ⟨env, τ, Hs, s, h⟩ => h σ H Hs (Sub.refl _) s
theorem s_raise (G : GoodS X W c Φ g) {n m : Str} {j : Nat} {p p2 pos pos' : Pos} (hn : n ∈ g.exc) (hg : Gl X n) (hdb : (n == ("__debug__" : Str)) = false) : PS X (.Raise (some (.Call (.Name n p) [.Constant (.str m) j p2] [] pos)) none pos') (tS Φ c W (.raise n)) := by
  obtain ⟨C, bmB, B, newId, initId, F, q, gC, kC, r, _⟩ := (G.exc n hn).ex
  refine ps_imp (ps_raise G.good.calm G.good.tk (pmk_own F q gC kC r hg hdb)) fun D σ H ⟨env, τ, Hs, s, h⟩ => ?_
  exact h C σ H Hs (by rw [← G.good.hmg]; exact gC) s.core
/-! ### rows of statements -/
theorem ss_nil : PSs X [] (tSs Φ c W .nil) := pss_imp pss_nil fun D σ H ⟨env, τ, Hs, s, h⟩ => h σ H Hs (Sub.refl _) s
theorem ss_cons {t : S} {r : Ss} {t' : Stmt} {r' : List Stmt} (h1 : PS X t' (tS Φ c W t)) (h2 : PSs X r' (tSs Φ c W r)) : PSs X (t' :: r') (tSs Φ c W (.cons t r)) := by
  refine pss_imp (pss_cons h1 h2) fun D σ H ⟨env, τ, Hs, s, h⟩ => ⟨env, τ, Hs, s, ?_⟩
  unfold exs at h
  cases hr : ex Φ t env τ with
  | nx env1 τ1 =>
    rw [hr] at h
    exact fun σ' H' Hs' e s' => ⟨env1, τ1, Hs', s', SRd.mono (r := exs Φ r env1 τ1) h e⟩
  | brk _ _ =>
    rw [hr] at h
    exact h
  | cnt _ _ =>
    rw [hr] at h
    exact h
  | ret _ _ =>
    rw [hr] at h
    exact h
  | err _ _ =>
    rw [hr] at h
    exact h
  | stuck =>
    rw [hr] at h
    exact h
theorem s_if {t : T} {a b : Ss} {t' : Expr} {a' b' : List Stmt} {pos : Pos} (ht : PT X t' (tT Φ c W t)) (ha : PSs X a' (tSs Φ c W a)) (hb : PSs X b' (tSs Φ c W b)) : PS X (.If t' a' b' pos) (tS Φ c W (.ifS t a b)) := by
  refine ps_imp (ps_if ht ha hb) fun D σ H ⟨env, τ, Hs, s, h⟩ => ⟨env, [], τ, Hs, s, ?_⟩
  unfold ex at h
  refine st_bind h fun k env1 τ1 k' H1 Hs1 e1 p h1 => ?_
  obtain ⟨rfl, s1⟩ := p
  cases k' with
  | true =>
    rw [if_pos rfl]
    exact ⟨env1, τ1, Hs1, s1, h1⟩
  | false =>
    rw [if_neg (by decide)]
    exact ⟨env1, τ1, Hs1, s1, h1⟩
/-! ### loops -/
theorem for_evI {tg : Tg} {ik : IK} {its : Es} {body : Ss} : ex Φ (.forS tg ik its body) env τ = (evI Φ ik its env τ).st fun xs env τ => forLoop (exs Φ body) tg xs env τ := by
  unfold evI
  rw [ex]
  cases evA Φ its env τ with
  | err _ _ => rfl
  | stuck => rfl
  | ok rs env1 τ1 =>
    simp only [R.st, Dv.R.bind]
    cases shareAll env1 rs with
    | none => rfl
    | some p =>
      simp only [of?, ofS]
      cases dats p.1 with
      | none => rfl
      | some ds =>
        simp only [of?, ofS]
        cases itemsD ik ds with
        | none => rfl
        | some xs => rfl
theorem s_for (G : GoodS X W c Φ g) {tg : Tg} {ik : IK} {its : Es} {body : Ss} {tg' iter' : Expr} {body' : List Stmt} {pos : Pos} (hi : PI X tg' iter' (tI Φ c W ik its)) (hg : PG X tg' (tG c tg)) (hb : PSs X body' (tSs Φ c W body)) (hs : ∀ x, foldedSetIterable iter' X.env x = pure x) :
    PS X (.For tg' iter' body' [] pos) (tS Φ c W (.forS tg ik its body)) := by
  refine ps_imp (ps_for G.pass G.good.calm hi hg hb hs) fun D σ H ⟨env, τ, Hs, s, h⟩ => ⟨env, [], τ, Hs, s, ?_⟩
  rw [for_evI] at h
  refine st_bind h fun xs env1 τ1 J H1 Hs1 e1 p h1 => ?_
  obtain ⟨s1, w⟩ := p
  let Pv : Nat → L2.St → Hp → Prop := fun i σ H => ∃ env' τ' Hs', Sub Hs1 Hs' ∧ Stt c env' [] τ' σ H Hs' ∧ forLoop (exs Φ body) tg xs env1 τ1 = forLoop (exs Φ body) tg (xs.drop i) env' τ'
  refine ⟨fun i m σ H => m = xs.length - i ∧ i ≤ xs.length ∧ Pv i σ H, ⟨xs.length, rfl, Nat.zero_le _, env1, τ1, Hs1, Sub.refl _, s1, rfl⟩, ?_⟩
  rintro i m σ H ⟨rfl, hi, env', τ', Hs', e', s', eq⟩
  by_cases hlt : i < xs.length
  · refine .inr ⟨w.goes i H hlt (e'.trans s'.core.sub), Pv (i + 1), fun σ' H' p => ⟨xs.length - (i + 1), by omega, rfl, hlt, p⟩, fun x H2 y => ?_⟩
    obtain ⟨Hs2, d, e2, s2, hd, r2⟩ := w.yields i H x H2 _ _ _ _ Hs' hlt e' s' y
    have hdrop : xs.drop i = d :: xs.drop (i + 1) := by
      rw [List.drop_eq_getElem_cons hlt]
      congr 1
      rw [List.getElem?_eq_getElem hlt] at hd
      exact Option.some.inj hd
    rw [hdrop] at eq
    cases ht : setTg tg d env' with
    | none =>
      simp only [forLoop, ht] at eq
      rw [eq] at h1
      exact h1.elim
    | some env2 =>
      refine ⟨env', [], τ', Hs2, d, env2, s2, r2, ht, fun σ2 al s3 => ⟨env2, τ', Hs2, s3, ?_⟩⟩
      have ee : Sub Hs1 Hs2 := e'.trans e2
      cases hb : exs Φ body env2 τ' with
      | nx env3 τ3 =>
        simp only [forLoop, ht, hb] at eq
        exact fun σ' H' Hs3 e3 s4 => ⟨env3, τ3, Hs3, ee.trans e3, s4, eq⟩
      | cnt env3 τ3 =>
        simp only [forLoop, ht, hb] at eq
        exact fun σ' H' Hs3 e3 s4 => ⟨env3, τ3, Hs3, ee.trans e3, s4, eq⟩
      | brk env3 τ3 =>
        simp only [forLoop, ht, hb] at eq
        rw [eq] at h1
        exact fun σ' H' Hs3 e3 s4 => h1 σ' H' Hs3 (ee.trans e3) s4
      | ret v τ3 =>
        simp only [forLoop, ht, hb] at eq
        rw [eq] at h1
        exact fun u H' Hs3 e3 s4 k => h1 u H' Hs3 (ee.trans e3) s4 k
      | err cl τ3 =>
        simp only [forLoop, ht, hb] at eq
        rw [eq] at h1
        exact h1
      | stuck =>
        simp only [forLoop, ht, hb] at eq
        rw [eq] at h1
        exact h1
  · have ei : i = xs.length := by omega
    subst ei
    rw [List.drop_length] at eq
    simp only [forLoop] at eq
    rw [eq] at h1
    exact .inl ⟨w.stops H (e'.trans s'.core.sub), h1 σ H Hs' e' s'⟩
theorem s_while (G : GoodS X W c Φ g) {fuel : Env → Tp → Nat} {t : T} {body : Ss} {t' : Expr} {body' : List Stmt} {pos : Pos} (ht : PT X t' (tT Φ c W t)) (hb : PSs X body' (tSs Φ c W body)) : PS X (.While t' body' [] pos) (tS Φ c W (.whileS fuel t body)) := by
  refine ps_imp (ps_while G.pass ht hb) fun D σ H ⟨env, τ, Hs, s, h⟩ => ?_
  unfold ex at h
  let r := whileLoop (evT Φ t) (exs Φ body) (fuel env τ) env τ
  have h : SRd c W Hs r D := h
  refine ⟨fun m σ H => ∃ env' τ' Hs', Sub Hs Hs' ∧ Stt c env' [] τ' σ H Hs' ∧ r = whileLoop (evT Φ t) (exs Φ body) m env' τ', ⟨_, env, τ, Hs, Sub.refl _, s, rfl⟩, ?_⟩
  rintro m σ H ⟨env', τ', Hs', e', s', eq⟩
  cases m with
  | zero =>
    rw [eq] at h
    exact h.elim
  | succ m =>
    refine ⟨env', [], τ', Hs', s', ?_⟩
    cases ht : evT Φ t env' τ' with
    | stuck =>
      simp only [whileLoop, ht] at eq
      rw [eq] at h
      exact h
    | err cl τ1 =>
      simp only [whileLoop, ht] at eq
      rw [eq] at h
      exact fun C H' Hs2 hC K => h C σ H' Hs2 hC K
    | ok b env1 τ1 =>
      intro b' H1 Hs1 e1 p
      obtain ⟨rfl, s1⟩ := p
      have ee : Sub Hs Hs1 := e'.trans e1
      cases b' with
      | false =>
        simp only [whileLoop, ht] at eq
        rw [if_neg (by decide)]
        rw [eq] at h
        exact h σ H1 Hs1 ee s1
      | true =>
        rw [if_pos rfl]
        refine ⟨fun σ' H' => ∃ env' τ' Hs', Sub Hs Hs' ∧ Stt c env' [] τ' σ' H' Hs' ∧ r = whileLoop (evT Φ t) (exs Φ body) m env' τ', fun σ' H' p => ⟨m, Nat.lt_succ_self m, p⟩, env1, τ1, Hs1, s1, ?_⟩
        cases hb : exs Φ body env1 τ1 with
        | nx env3 τ3 =>
          simp only [whileLoop, ht, hb] at eq
          exact fun σ' H' Hs3 e3 s4 => ⟨env3, τ3, Hs3, ee.trans e3, s4, eq⟩
        | cnt env3 τ3 =>
          simp only [whileLoop, ht, hb] at eq
          exact fun σ' H' Hs3 e3 s4 => ⟨env3, τ3, Hs3, ee.trans e3, s4, eq⟩
        | brk env3 τ3 =>
          simp only [whileLoop, ht, hb] at eq
          rw [eq] at h
          exact fun σ' H' Hs3 e3 s4 => h σ' H' Hs3 (ee.trans e3) s4
        | ret v τ3 =>
          simp only [whileLoop, ht, hb] at eq
          rw [eq] at h
          exact fun u H' Hs3 e3 s4 k => h u H' Hs3 (ee.trans e3) s4 k
        | err cl τ3 =>
          simp only [whileLoop, ht, hb] at eq
          rw [eq] at h
          exact h
        | stuck =>
          simp only [whileLoop, ht, hb] at eq
          rw [eq] at h
          exact h
end
end Dv

set_option Elab.async false
set_option linter.all false
set_option maxRecDepth 100000
set_option maxHeartbeats 2000000
/-! Dv12r: a lambda handed to a def that tries it. -/
namespace Dv
open PySem PySem.Spec PyProof.Rows L2
section
variable {X : Cx} {c : Fc} {W : WX} {Φ : Orc} {g : Sig} {env : Env} {pend : List (Addr × List D)} {τ : Tp} {σ : L2.St} {H H' Hs Hs' : Hp} {v u : V} {x y : D}
/-! ### tables are written -/
theorem Core.extN {H1 : Hp} (C : Core c τ H Hs) (e : LamX.ExtN H H1) (t : LamX.Tabs c.TL H1) : Core c τ H1 Hs := by
  refine ⟨fun a o q => e a o (C.sub a o q) (C.nt a o q), fun a o q h1 h2 => e a o (C.keep a o q h1 h2) h2, C.old, C.new, ?_, C.nT, C.nt, t⟩
  obtain ⟨z, t1, t2⟩ := C.tape
  exact ⟨z, t1, e _ _ t2 (fun ps z => nomatch z)⟩
theorem Stt.extN {H1 : Hp} (s : Stt c env pend τ σ H Hs) (e : LamX.ExtN H H1) (t : LamX.Tabs c.TL H1) : Stt c env pend τ σ H1 Hs := by
  have own : ∀ {a : Addr} {xs : List D}, OwnAt c H Hs a xs → OwnAt c H1 Hs a xs := fun {a xs} w => by
    obtain ⟨vs, h1, h2⟩ := w.at_
    exact ⟨⟨vs, e _ _ h1 (fun ps z => nomatch z), h2⟩, w.nHs, w.nH0, w.nT⟩
  refine ⟨s.core.extN e t, s.len, fun i z hz => ?_, s.inj, fun p hp => own (s.pnd p hp), s.pno, s.pdup⟩
  have q := s.slot i z hz
  cases z with
  | sh z => exact q
  | own xs =>
    obtain ⟨a, q1, q2⟩ := q
    exact ⟨a, q1, own q2⟩
theorem dropOwn_at {env : Env} {i : Nat} {z : Sl} (h : (dropOwn env)[i]? = some (some z)) : env[i]? = some (some z) ∧ ∃ w, z = .sh w := by
  unfold dropOwn at h
  rw [List.getElem?_map] at h
  cases q : env[i]? with
  | none =>
    rw [q] at h
    cases h
  | some y =>
    rw [q] at h
    have h := Option.some.inj h
    cases y with
    | none => cases h
    | some y =>
      cases y with
      | sh w =>
        cases h
        exact ⟨rfl, w, rfl⟩
      | own _ => cases h
/-- the state as another entry sees it -/
theorem Stt.entry (s : Stt c env pend τ σ H Hs) : Stt ⟨c.K, c.mg, c.T, H, Hs, c.TL⟩ (dropOwn env) [] τ σ H Hs := by
  refine ⟨s.core.start, by unfold dropOwn; rw [List.length_map]; exact s.len, fun i z hz => ?_, fun i j xs ys a h _ _ _ => ?_, (fun p hp => nomatch hp), (fun p hp => nomatch hp), List.nodup_nil⟩
  · obtain ⟨h1, w, rfl⟩ := dropOwn_at hz
    obtain ⟨u, q1, q2⟩ := s.slot i _ h1
    refine ⟨u, q1, ?_⟩
    cases w with
    | d x => exact q2
    | tp => exact q2
  · obtain ⟨_, w, e⟩ := dropOwn_at h
    cases e
/-! ### the def that tries it -/
/-- try: a() / except e: return True // return False -/
def refBody (a e : Str) (j1 j2 : Nat) (p1 p2 p3 p4 p5 p6 p7 p8 p9 p10 : Pos) : List Stmt :=
  [.Try [.Expr (.Call (.Name a p1) [] [] p2) p3] [.ExceptHandler (some (.Name e p4)) none [.Return (some (.Constant (.bool true) j1 p5)) p6] p7] [] [] p8, .Return (some (.Constant (.bool false) j2 p9)) p10]
def TTref (K : PySem.W.Frag) (CS : Addr) : (XK → Hp → VK → Prop) → Hp → VK → Prop := fun tl H Q =>
  tl (fun cls _ H' => ∃ b, PySem.W.exmOne K cls (.ref CS) = some b ∧ (b = true → Q (.bl true) H') ∧ (b = false → False)) H (fun _ H' => Q (.bl false) H')
theorem ref_gives {Ng : List Str} {x a e q : Str} {sg : Scope} {g0 CS : Addr} {cdg : Value} {j1 j2 : Nat} {p1 p2 p3 p4 p5 p6 p7 p8 p9 p10 : Pos} (hge : sg.names.lookup e = some .globalImplicit) (hme : X.mg e = some (.ref CS)) (hde : (e == ("__debug__" : Str)) = false) (h0 : ∀ f : Addr, (L2.start Ng [V.ref f])[0]? = some (some (V.ref f))) :
    LamX.GivesTo X Ng x sg g0 cdg (refBody a e j1 j2 p1 p2 p3 p4 p5 p6 p7 p8 p9 p10) a q (TTref X.K CS) := by
  intro f c' s H Q tl act hc h
  have hgl : Gl (cxOf C8.CX0 X.prog X.w X.K X.mg X.base Ng x sg g0 cdg X.A X.stack s H C8.E0).nox e := hge
  refine ⟨_, pss_cons (ps_try_only (X := (cxOf C8.CX0 X.prog X.w X.K X.mg X.base Ng x sg g0 cdg X.A X.stack s H C8.E0).nox) (c := .ref CS)
      (tb := fun W D σ H => ∃ Ech : XK, (∀ cls d σ' H', Ech cls d H' → W cls d σ' H') ∧ σ[0]? = some (some (.ref f)) ∧ H c' = some (LamX.CodeO c' q) ∧ tl Ech H fun _ H' => D.nx σ H')
      rfl rfl ⟨hgl, hde, .inl hme⟩ LamX.takes0 (fun W pn xe tk _ => ?_) (fun a oe cls d pn _ _ => pss_one (ps_ret pe_bl))) (pss_one (ps_ret pe_bl)), ?_⟩
  · refine ⟨fun pins s' σ H' D I h' => ?_⟩
    obtain ⟨Ech, hW, h1, h2, h3⟩ := h'
    have hp := act W pn xe Ech p1 p2 tk hW
    have hq := pss_one (ps_expr (pos := p3) hp)
    exact hq.run pins s' σ H' D I ⟨h1, h2, h3⟩
  · exact ⟨fun cls _ H' => ∃ b, PySem.W.exmOne X.K cls (.ref CS) = some b ∧ (b = true → Q (.bl true) H') ∧ (b = false → False), fun cls d σ' H' ⟨b, e1, e2, e3⟩ => ⟨b, e1, fun hb a _ => e2 hb, fun hb => e3 hb⟩, h0 f, hc, h⟩
def nmOk (n : Str) : Bool := !(n == ("__debug__" : Str)) && !(n == ("__classdict__" : Str))
/-- what is known of the def x that tries (its error cl), seen from X -/
structure RefOk (X : Cx) (c : Fc) (Φ : Orc) (g : Sig) (x cl : Str) : Prop where
  ex : ∃ (g0 CS cA P : Addr) (kk : Nat) (fd : FuncData) (args : Arguments) (sg : Scope) (a : Str) (j1 j2 : Nat) (p1 p2 p3 p4 p5 p6 p7 p8 p9 p10 : Pos),
    X.mg x = some (.ref g0) ∧ FunD X.K x x args (refBody a cl j1 j2 p1 p2 p3 p4 p5 p6 p7 p8 p9 p10) sg [] [] g0 fd ∧ Binds X.K fd [a] [] ∧ FnScope [a] [a] sg ∧ sg.names.lookup cl = some .globalImplicit ∧ nmOk a = true ∧
    X.mg cl = some (.ref CS) ∧ (cl == ("__debug__" : Str)) = false ∧ PySem.W.exmOne X.K (.ref CS) (.ref CS) = some true ∧
    LamX.TabB X.base X.mg cA P ∧ X.env.code = .ref cA ∧ c.TL = [(P, X.env.qual ++ "<lambda>")] ∧ Room (kk + 2) X.A ∧
    (∀ p ∈ g.fns, ∃ (a : Addr) (fd : FuncData) (ps : List Str), X.mg p.1 = some (.ref a) ∧ PySem.W.keepIn X.K (.ref a) = true ∧ Binds X.K fd ps [] ∧ FnOk X.prog X.w X.K X.mg X.base (L2.CX X.prog X.w) kk a fd ps (spD X.K X.mg c.TL p.2 (Φ p.1)))
/-- what the lambda's body does, whatever the entry -/
def tLamE (X : Cx) (c : Fc) (Φ : Orc) (e : E) : XK → TE := fun E σ H Q => ∃ c' : Fc, c'.K = c.K ∧ c'.mg = c.mg ∧ c'.TL = c.TL ∧ tE Φ c' (fun cls d _ H => E cls d H) e σ H Q
theorem c_refused (G : Good X W c Φ g) {x cl : Str} {e : E} {body : Expr} {scope : Scope} {p lpos pos : Pos} (hg : Gl X x) (hdb : (x == ("__debug__" : Str)) = false) (R : RefOk X c Φ g x cl) (L : LamX.LamS X.env.scope scope)
    (hb : ∀ (X' : Cx) (W' : WX) (c' : Fc), X'.N = X.N → X'.env.scope = scope → X'.fn = (fun _ => false) → Good X' W' c' Φ g → PE X' body (tE Φ c' W' e)) :
    PE X (.Call (.Name x p) [.Lambda ⟨[], [], none, [], [], none, []⟩ body scope lpos] [] pos) (tE Φ c W (.refused x cl e)) := by
  obtain ⟨g0, CS, cA, P, kk, fd, args, sg, a, j1, j2, p1, p2, p3, p4, p5, p6, p7, p8, p9, p10, hm, F, hbn, Sg, hge, hna, hme, hde, hex, TB, hcode, hTL, hr, hf⟩ := R.ex
  have hk := F.kp
  obtain ⟨oc, od, dV, kV, doc, pm, an, cdv, ct, osl, rfl, lk, hcd, _, _⟩ := F.ex
  have hva : Vis sg a := by
    rcases Sg.par a (by simp) with q | q
    · exact .inl q
    · exact .inr (.inl q)
  have hgv := ref_gives (X := X) (Ng := [a]) (x := x) (a := a) (e := cl) (q := X.env.qual ++ "<lambda>") (sg := sg) (g0 := g0) (CS := CS) (cdg := cdv) (j1 := j1) (j2 := j2) (p1 := p1) (p2 := p2) (p3 := p3) (p4 := p4) (p5 := p5) (p6 := p6) (p7 := p7) (p8 := p8) (p9 := p9) (p10 := p10) hge hme hde (fun _ => rfl)
  unfold nmOk at hna
  rw [Bool.and_eq_true, Bool.not_eq_true', Bool.not_eq_true'] at hna
  refine pe_imp (LamX.pe_lamcall (T := c.TL) (TT := TTref X.K CS) (t := tLamE X c Φ e) (k := kk) hg hm hk lk hcd hbn Sg rfl hva hgv TB hcode (by rw [hTL]; simp) (fun q hq _ => by rw [hTL] at hq; simp at hq; rw [hq]) hr L rfl (fun _ _ _ _ _ => rfl) (fun A outer s H E f c' hr2 => ?_) hdb hna.1 hna.2) fun σ H Q ⟨env, pend, τ, Hs, s, h⟩ => ?_
  · refine ⟨fun pins s2 σ H2 Q I ⟨c2, e1, e2, e3, q⟩ => ?_⟩
    refine (hb (LamX.lamCx X A outer s H E scope f c') (fun cls d _ H => E cls d H) c2 rfl rfl rfl ⟨rfl, G.nd, takes_of rfl rfl rfl rfl, G.hK.trans e1.symm, G.hmg.trans e2.symm, ?_, fun q hq => ?_, G.cst, G.blt⟩).run pins s2 σ H2 Q I q
    · have := hr2.un
      show (A.deeper (LamX.lamEnv X scope s.heap.objs.size f c')).units + 65 < cLine
      omega
    · obtain ⟨a1, fd1, ps1, z1, z2, z3, z4⟩ := hf q hq
      exact ⟨a1, fd1, ps1, kk, z1, z2, z3, hr2, by rw [e3]; exact z4⟩
  · refine ⟨s.core.tabs, fun H1 eN T1 => ?_⟩
    have s1 := s.extN eN T1
    refine ⟨⟨c.K, c.mg, c.T, H1, Hs, c.TL⟩, rfl, rfl, rfl, dropOwn env, [], τ, Hs, s1.entry, ?_⟩
    simp only [ev] at h
    cases hr : ev Φ e (dropOwn env) τ with
    | ok rv env' τ' =>
      rw [hr] at h
      intro v H' Hs' e' p
      obtain ⟨Hs2, e2, s2, _⟩ := post_unfr p
      exact h (.bl false) H' Hs2 (e'.trans e2) ⟨s1.after s2.core, .bl false⟩
    | err c1 τ' =>
      rw [hr] at h
      intro C H' Hs' hC K
      dsimp only at h
      split at h
      · rename_i hcl
        subst hcl
        have eC : C = CS := by
          have hC' : c.mg c1 = some (.ref C) := hC
          rw [← G.hmg, hme] at hC'
          cases hC'
          rfl
        subst eC
        refine ⟨true, hex, fun _ => h (.bl true) H' Hs' K.old ⟨s1.after K, .bl true⟩, fun z => nomatch z⟩
      · exact h.elim
    | stuck =>
      rw [hr] at h
      exact h.elim
/-! ### try: return e / except cl: return None -/
theorem Good.tr (G : Good X W c Φ g) {pn : List (Addr × Obj)} {xe : Value → Shared → Prop} {W' : WX} (H Hs : Hp) (tk : Takes (X.tr pn xe) W') : Good (X.tr pn xe) W' ⟨c.K, c.mg, c.T, H, Hs, c.TL⟩ Φ g :=
  ⟨G.calm, G.nd, tk, G.hK, G.hmg, G.room, fun p hp => ⟨(G.fns p hp).ex⟩, G.cst, G.blt⟩
theorem s_tryRet (G : GoodS X W c Φ g) {e : E} {e' : Expr} {cl : Str} {j : Nat} {p1 p2 p3 p4 p5 p6 : Pos} (hn : cl ∈ g.exc) (hg : Gl X cl) (hdb : (cl == ("__debug__" : Str)) = false)
    (he : ∀ (W' : WX) (pn : List (Addr × Obj)) (xe : Value → Shared → Prop) (H0 Hs0 : Hp), Takes (X.tr pn xe) W' → PE (X.tr pn xe) e' (tE Φ ⟨c.K, c.mg, c.T, H0, Hs0, c.TL⟩ W' e)) :
    PS X (.Try [.Return (some e') p1] [.ExceptHandler (some (.Name cl p2)) none [.Return (some (.Constant .none j p3)) p4] p5] [] [] p6) (tS Φ c W (.tryRet e cl)) := by
  obtain ⟨C, bmB, B, newId, initId, F, q, gC, kC, r, hex⟩ := (G.exc cl hn).ex
  refine ps_imp (ps_try_only (c := .ref C) (Wout := W) (tb := fun W' D σ H => ∃ H0 Hs0, tS Φ ⟨c.K, c.mg, c.T, H0, Hs0, c.TL⟩ W' (.ret e) D σ H) (ts := fun a cls d D σ H => D.rt .non H) G.stk G.frm ⟨hg, hdb, .inl gC⟩ G.good.tk (fun W' pn xe tk _ => ?_) (fun a oe cls d pn _ _ => ?_)) fun D σ H ⟨env, τ, Hs, s, h⟩ => ?_
  · refine pss_one ⟨fun pins s' σ H D I ⟨H0, Hs0, h0⟩ => (ps_imp (ps_ret (he W' pn xe H0 Hs0 tk)) fun D σ H ⟨env, τ, Hs, s, h⟩ => ⟨env, [], τ, Hs, s, st_bind h fun rv env1 τ1 v H1 Hs1 e1 p h1 => ?_⟩).run pins s' σ H D I h0⟩
    obtain ⟨q, hq, h2⟩ := srd_of h1
    obtain ⟨Hs2, e2, s2, k2⟩ := post_share p hq
    exact h2 v H1 Hs2 e2 s2.core k2
  · exact pss_one (ps_ret pe_non)
  · refine ⟨H, Hs, dropOwn env, τ, Hs, s.entry, ?_⟩
    unfold ex at h ⊢
    cases hr : ev Φ e (dropOwn env) τ with
    | ok rv env1 τ1 =>
      rw [hr] at h
      dsimp only at h
      simp only [R.st]
      cases hs : share env1 rv with
      | none =>
        rw [hs] at h
        exact h.elim
      | some q =>
        rw [hs] at h
        exact fun u H' Hs' e' K k => h u H' Hs' e' (s.after K).core (by
          cases hq : q.1 with
          | d x =>
            rw [hq] at k
            exact k
          | tp =>
            rw [hq] at k
            exact k)
    | err c1 τ1 =>
      rw [hr] at h
      dsimp only at h
      split at h
      · rename_i hc
        subst hc
        intro C2 σ' H' Hs' hC K
        have e2 : C2 = C := by
          have hC' : c.mg c1 = some (.ref C2) := hC
          rw [← G.good.hmg, gC] at hC'
          cases hC'
          rfl
        subst e2
        exact ⟨true, hex, fun _ a _ => h .non H' Hs' K.old (s.after K).core .non, fun z => nomatch z⟩
      · exact h.elim
    | stuck =>
      rw [hr] at h
      exact h.elim
end
end Dv

set_option Elab.async false
set_option linter.all false
set_option maxRecDepth 100000
set_option maxHeartbeats 2000000
/-! Dv12t: the tape's fields. -/
namespace Dv
open PySem PySem.Spec PyProof.Rows L2
def fName : TF → Str
  | .cells => "cells"
  | .at_ => "at"
  | .left => "left"
  | .seed => "seed"
  | .salt => "salt"
section
variable {X : Cx} {c : Fc} {W : WX} {Φ : Orc} {g : Sig} {env : Env} {pend : List (Addr × List D)} {τ τ' : Tp} {σ : L2.St} {H H' Hs Hs' : Hp} {v u : V} {x y : D}
theorem rpAll_ints {K : PySem.W.Frag} : ∀ ns : List Int, RpAll K Hs (ns.map V.int) (ns.map PyData.int)
  | [] => .nil
  | _ :: ns => .cons (.int _) (rpAll_ints ns)
theorem tape_get (s : Stt c env pend τ σ H Hs) (f : TF) : ∃ v, DGet H c.T (kV (.inr (fName f))) (some v) ∧ Rp c.K Hs v (tapeGet τ f) := by
  obtain ⟨a, h1, h2⟩ := s.core.tape
  have g := DGet.k (k := .inr (fName f)) h2
  cases f with
  | cells => exact ⟨.ref a, g, .lst h1 (rpAll_ints _)⟩
  | at_ => exact ⟨_, g, .int _⟩
  | left => exact ⟨_, g, .int _⟩
  | seed => exact ⟨_, g, .int _⟩
  | salt => exact ⟨_, g, .int _⟩
theorem c_tget (G : Good X W c Φ g) {i : Nat} {n : Str} {f : TF} {j : Nat} {p p2 pos : Pos} (hN : X.N[i]? = some n) (hv : Vis X.env.scope n) (hd : (n == ("__debug__" : Str)) = false) (hcd : (n == ("__classdict__" : Str)) = false) :
    PE X (.Subscript (.Name n p) (.Constant (.str (fName f)) j p2) pos) (tE Φ c W (.tget i f)) := by
  have hu : X.A.units + 1 < cLine := by have := G.room; omega
  refine pe_imp (pe_dget hu (pe_var (i := i) hN hv hd hcd) pe_str (fun _ _ => rfl)) fun σ H Q ⟨env, pend, τ, Hs, s, h⟩ => ?_
  simp only [ev] at h
  split at h
  · rename_i hx
    obtain ⟨u, q1, q2⟩ := s.slot i _ hx
    obtain ⟨v, g1, g2⟩ := tape_get s f
    exact ⟨u, q1, c.T, v, q2, g1, fin_sh h s g2⟩
  · exact h.elim
theorem Core.tape' {a : Addr} (C : Core c τ H Hs) (h1 : Hs a = some (.lst (τ'.cells.map .int))) : Core c τ' (upd H c.T (.dK (tapeKvs a τ'))) Hs := by
  obtain ⟨b, _, t2⟩ := C.tape
  refine ⟨fun p q e => ?_, fun p q e n1 n2 => ?_, C.old, C.new, ⟨a, h1, upd_same⟩, C.nT, C.nt, fun p hp => ?_⟩
  · rw [upd_ne (ne_of_none e C.nT)]
    exact C.sub p q e
  · rw [upd_ne n1]
    exact C.keep p q e n1 n2
  · obtain ⟨ps, z1, z2, z3⟩ := C.tabs p hp
    have n1 : p.1 ≠ c.T := fun e => by
      rw [e, t2] at z1
      cases z1
    refine ⟨ps, (upd_ne n1).trans z1, z2, fun pos cv hc => ?_⟩
    obtain ⟨d, e1, e2⟩ := z3 pos cv hc
    have n2 : d ≠ c.T := fun e => by
      rw [e, t2] at e2
      exact nomatch Option.some.inj e2
    exact ⟨d, e1, (upd_ne n2).trans e2⟩
theorem Stt.tape' {a : Addr} (s : Stt c env pend τ σ H Hs) (h1 : Hs a = some (.lst (τ'.cells.map .int))) : Stt c env pend τ' σ (upd H c.T (.dK (tapeKvs a τ'))) Hs := by
  have own : ∀ {b : Addr} {xs : List D}, OwnAt c H Hs b xs → OwnAt c (upd H c.T (.dK (tapeKvs a τ'))) Hs b xs := fun {b xs} w => w.grow (Sub.refl _) w.nHs (upd_ne w.nT)
  refine ⟨s.core.tape' h1, s.len, fun i z hz => ?_, s.inj, fun p hp => own (s.pnd p hp), s.pno, s.pdup⟩
  have q := s.slot i z hz
  cases z with
  | sh z => exact q
  | own xs =>
    obtain ⟨b, q1, q2⟩ := q
    exact ⟨b, q1, own q2⟩
theorem tape_put {k : Int} {f : TF} (s : Stt c env pend τ σ H Hs) (h : tapeSet τ k f = some τ') : ∃ H', DPut H c.T (kV (.inr (fName f))) (.int k) H' ∧ Stt c env pend τ' σ H' Hs := by
  obtain ⟨a, h1, h2⟩ := s.core.tape
  have hl : (tapeKvs a τ).length < sizeLine := by
    show 5 < sizeLine
    rw [sizeLine_eq]
    decide
  have g := DPut.k (k := .inr (fName f)) (v := .int k) h2 hl
  cases f with
  | cells => cases h
  | at_ =>
    cases h
    exact ⟨_, g, s.tape' (τ' := { τ with at_ := k }) h1⟩
  | left =>
    cases h
    exact ⟨_, g, s.tape' (τ' := { τ with left := k }) h1⟩
  | seed =>
    cases h
    exact ⟨_, g, s.tape' (τ' := { τ with seed := k }) h1⟩
  | salt =>
    cases h
    exact ⟨_, g, s.tape' (τ' := { τ with salt := k }) h1⟩
theorem s_tset (G : GoodS X W c Φ g) {i : Nat} {n : Str} {f : TF} {e : E} {e' : Expr} {j : Nat} {p p2 p3 pos : Pos} (hN : X.N[i]? = some n) (hv : Vis X.env.scope n) (hd : (n == ("__debug__" : Str)) = false) (hcd : (n == ("__classdict__" : Str)) = false) (he : PE X e' (tE Φ c W e)) (hs : swapsWith e' (some (.Subscript (.Name n p) (.Constant (.str (fName f)) j p2) p3)) pos.line X.env = pure false) :
    PS X (.Assign [.Subscript (.Name n p) (.Constant (.str (fName f)) j p2) p3] e' pos) (tS Φ c W (.tset i f e)) := by
  have hu : X.A.units + 1 < cLine := by have := G.good.room; omega
  refine ps_imp (ps_dput hu (pe_var (i := i) hN hv hd hcd) pe_str he hs) fun D σ H ⟨env, τ, Hs, s, h⟩ => ⟨env, [], τ, Hs, s, st_bind h fun rv env1 τ1 v H1 Hs1 e1 p1 h1 => ?_⟩
  obtain ⟨Hs2, e2, s2, b2⟩ := post_unfr p1
  split at h1
  · rename_i k hx hk
    obtain ⟨τ', ht, h2⟩ := srd_of h1
    obtain ⟨u, q1, q2⟩ := s2.slot i _ hx
    have q2' : u = .ref c.T := q2
    obtain ⟨H', g1, s3⟩ := tape_put s2 ht
    rw [rpB_int (look_ok s2 b2 hk)]
    exact ⟨u, q1, c.T, H', q2', g1, h2 σ H' Hs2 e2 s3⟩
  · exact h1.elim
end
end Dv

set_option Elab.async false
set_option linter.all false
set_option maxRecDepth 100000
set_option maxHeartbeats 2000000
/-! Dv12p: further forms: list(range(n)), x.index(y), len(set(t)), x is True. -/
namespace Dv
open PySem PySem.Spec PyProof.Rows L2
section
variable {X : Cx} {c : Fc} {W : WX} {Φ : Orc} {g : Sig} {env : Env} {pend : List (Addr × List D)} {τ : Tp} {σ : L2.St} {H H' Hs Hs' : Hp} {v u : V} {x y : D}
def tIsB (b : Bool) (n : Bool) (ta : TE) : TE := fun σ H Q => ta σ H fun x H1 => ∃ k, x = .bl k ∧ Q (.bl (if n then !(k == b) else (k == b))) H1
theorem pc_isB {b : Bool} {a : Expr} {ta : TE} {j pos'} (ha : PE X a ta) : PC X .Is a (.Constant (.bool b) j pos') (tIsB b false ta) := by
  refine ⟨fun pins s σ H Q I h => thn (ha.run pins s σ H _ I h) fun v s1 ⟨x, H1, I1, r1, q1⟩ => ?_⟩
  obtain ⟨k, rfl, q⟩ := q1
  cases r1
  refine Constant_bool ?_
  cases k <;> cases b <;> exact wpAny_pure ⟨.bl _, H1, I1, rfl, q⟩
theorem pc_notB {b : Bool} {a : Expr} {ta : TE} {j pos'} (ha : PE X a ta) : PC X .IsNot a (.Constant (.bool b) j pos') (tIsB b true ta) := by
  refine ⟨fun pins s σ H Q I h => thn (ha.run pins s σ H _ I h) fun v s1 ⟨x, H1, I1, r1, q1⟩ => ?_⟩
  obtain ⟨k, rfl, q⟩ := q1
  cases r1
  refine Constant_bool ?_
  cases k <;> cases b <;> exact wpAny_pure ⟨.bl _, H1, I1, rfl, q⟩
theorem prim_bool {f : P1} {z : Rv} {b : Bool} (hf : f = .isB b ∨ f = .notB b) (h : prim1 f x = some z) : ∃ k, x = .bool k := by
  rcases hf with rfl | rfl <;> (cases x <;> first | exact ⟨_, rfl⟩ | cases h)
theorem c_isB {b : Bool} {a : E} {a' : Expr} {j : Nat} {p pos : Pos} (ha : PE X a' (tE Φ c W a)) : PE X (.Compare a' [.Is] [.Constant (.bool b) j p] pos) (tE Φ c W (.p1 (.isB b) a)) := by
  refine pe_imp (pe_cmp (pc_isB ha) rfl) fun σ H Q ⟨env, pend, τ, Hs, s, h⟩ => ⟨env, pend, τ, Hs, s, opnd h fun rv env1 τ1 v H1 Hs1 e1 s1 b1 h1 => ?_⟩
  obtain ⟨x, ex, h2⟩ := prd_of h1
  obtain ⟨z, hz, h3⟩ := prd_of h2
  obtain ⟨k, rfl⟩ := prim_bool (.inl rfl) hz
  cases hz
  exact ⟨k, rpB_bool (look_ok s1 b1 ex), fin_sh h3 s1 (.bl _)⟩
theorem c_notB {b : Bool} {a : E} {a' : Expr} {j : Nat} {p pos : Pos} (ha : PE X a' (tE Φ c W a)) : PE X (.Compare a' [.IsNot] [.Constant (.bool b) j p] pos) (tE Φ c W (.p1 (.notB b) a)) := by
  refine pe_imp (pe_cmp (pc_notB ha) rfl) fun σ H Q ⟨env, pend, τ, Hs, s, h⟩ => ⟨env, pend, τ, Hs, s, opnd h fun rv env1 τ1 v H1 Hs1 e1 s1 b1 h1 => ?_⟩
  obtain ⟨x, ex, h2⟩ := prd_of h1
  obtain ⟨z, hz, h3⟩ := prd_of h2
  obtain ⟨k, rfl⟩ := prim_bool (.inr rfl) hz
  cases hz
  exact ⟨k, rpB_bool (look_ok s1 b1 ex), fin_sh h3 s1 (.bl _)⟩
theorem p1_bool {f : P1} {b : Bool} (hf : f = .isB b ∨ f = .notB b) {a : E} : ∀ env τ rv env' τ', ev Φ (.p1 f a) env τ = .ok rv env' τ' → ∃ z, rv = .sh (.d (.bool z)) := fun env τ rv env' τ' h => by
  simp only [ev] at h
  cases hr : ev Φ a env τ with
  | ok r e1 t1 =>
    rw [hr] at h
    simp only [Dv.R.bind] at h
    cases hl : lookD e1 (unfr r) with
    | none =>
      rw [hl] at h
      cases h
    | some x =>
      rw [hl] at h
      simp only [of?] at h
      cases hp : prim1 f x with
      | none =>
        rw [hp] at h
        cases h
      | some z =>
        rw [hp] at h
        cases h
        obtain ⟨k, rfl⟩ := prim_bool hf hp
        rcases hf with rfl | rfl <;> (cases hp; exact ⟨_, rfl⟩)
  | err _ _ =>
    rw [hr] at h
    cases h
  | stuck =>
    rw [hr] at h
    cases h
theorem t_isB {b : Bool} {a : E} {a' : Expr} {j : Nat} {p pos : Pos} (ha : PE X a' (tE Φ c W a)) : PT X (.Compare a' [.Is] [.Constant (.bool b) j p] pos) (tT Φ c W (.val (.p1 (.isB b) a))) := by
  refine pt_imp (pt_cmp (pc_isB ha) rfl) fun σ H Q h0 => ?_
  obtain ⟨env, pend, τ, Hs, s, h⟩ := tT_bool (p1_bool (.inl rfl)) h0
  refine ⟨env, pend, τ, Hs, s, opnd h fun rv env1 τ1 v H1 Hs1 e1 s1 b1 h1 => ?_⟩
  obtain ⟨x, ex, h2⟩ := prd_of h1
  obtain ⟨z, hz, h3⟩ := prd_of h2
  obtain ⟨k, rfl⟩ := prim_bool (.inl rfl) hz
  cases hz
  exact ⟨k, rpB_bool (look_ok s1 b1 ex), fin_sh h3 s1 (.bl _)⟩
theorem t_notB {b : Bool} {a : E} {a' : Expr} {j : Nat} {p pos : Pos} (ha : PE X a' (tE Φ c W a)) : PT X (.Compare a' [.IsNot] [.Constant (.bool b) j p] pos) (tT Φ c W (.val (.p1 (.notB b) a))) := by
  refine pt_imp (pt_cmp (pc_notB ha) rfl) fun σ H Q h0 => ?_
  obtain ⟨env, pend, τ, Hs, s, h⟩ := tT_bool (p1_bool (.inr rfl)) h0
  refine ⟨env, pend, τ, Hs, s, opnd h fun rv env1 τ1 v H1 Hs1 e1 s1 b1 h1 => ?_⟩
  obtain ⟨x, ex, h2⟩ := prd_of h1
  obtain ⟨z, hz, h3⟩ := prd_of h2
  obtain ⟨k, rfl⟩ := prim_bool (.inr rfl) hz
  cases hz
  exact ⟨k, rpB_bool (look_ok s1 b1 ex), fin_sh h3 s1 (.bl _)⟩
/-! ### list(range(n)) -/
theorem rp_range {K : PySem.W.Frag} {Hs : Hp} (a b : Int) : RpAll K Hs (rgV a b) (rangeD a (b - a).toNat) := by
  unfold rgV rangeD
  generalize List.range (b - a).toNat = l
  induction l with
  | nil => exact .nil
  | cons i l ih => exact .cons (.int _) ih
theorem c_listRange (G : Good X W c Φ g) {a : E} {a' : Expr} {p p2 q pos : Pos} (hl : Gl X "list") (hr : Gl X "range") (ha : PE X a' (tE Φ c W a)) (na : starEach [a'] X.env = (false, eval a' X.env) :: starEach [] X.env) :
    PE X (.Call (.Name "list" p) [.Call (.Name "range" p2) [a'] [] q] [] pos) (tE Φ c W (.p1 .listRange a)) := by
  refine pe_imp (pe_listRg G.calm hl (G.blt _ (by simp [bltNames])) (prg_1 hr (G.blt _ (by simp [bltNames])) ha na)) fun σ H Q ⟨env, pend, τ, Hs, s, h⟩ => ⟨env, pend, τ, Hs, s, opnd h fun rv env1 τ1 v H1 Hs1 e1 s1 b1 h1 => ?_⟩
  obtain ⟨x, ex, h2⟩ := prd_of h1
  obtain ⟨z, hz, h3⟩ := prd_of h2
  cases x with
  | int n =>
    have hz' : (if small62 n && okLen n.toNat then some (Rv.fr (rangeD 0 n.toNat)) else none) = some z := hz
    split at hz'
    · rename_i hc
      rw [Bool.and_eq_true] at hc
      cases hz'
      have b := small62_iff hc.1
      have l : n.toNat ≤ 100000 := of_decide_eq_true hc.2
      refine ⟨n, rpB_int (look_ok s1 b1 ex), ⟨by omega, by omega, b.1, b.2, by rw [Int.sub_zero]; omega⟩, fun q hq => fin_fr h3 s1 hq ?_⟩
      have := rp_range (K := c.K) (Hs := Hs1) 0 n
      rw [Int.sub_zero] at this
      exact this
    · cases hz'
  | _ => cases hz
/-! ### x.index(y) -/
theorem c_index (G : Good X W c Φ g) {a b : E} {n : Str} {np : Pos} {b' : Expr} {apos cpos : Pos} (hline : (apos.endLine == cpos.line) = true) (ha : PE X (.Name n np) (tE Φ c W a)) (hb : PE X b' (tE Φ c W b))
    (hfew : ((backTo cpos (starEach [b'] X.env)).all (fun x => !x.1) && (backToKw cpos (keywordEach [] X.env)).all (fun x => x.1.isSome) && decide (([b'] : List Expr).length + ([] : List Keyword).length + (if ([] : List Keyword).isEmpty then 0 else 1) < 30)) = true)
    (hs : starEach [b'] X.env = (false, eval b' X.env) :: starEach [] X.env) :
    PE X (.Call (.Attribute (.Name n np) "index" apos) [b'] [] cpos) (tE Φ c W (.p2 .index a b)) := by
  refine pe_imp (pe_bm PySem.F.plainAttrs_list PySem.F.slot_list_index PySem.F.type_list_index (mt_indexD G.room) ha (pa_cons hb pa_nil hs) rfl hfew hline hs rfl) fun σ H Q ⟨env, pend, τ, Hs, s, h⟩ => ⟨env, pend, τ, Hs, s, opnd h fun rv env1 τ1 v H1 Hs1 e1 s1 b1 h1 => ?_⟩
  split at h1
  · rename_i xs0 hx
    obtain ⟨ad, vs, rfl, q1, q2⟩ := rpB_list (look_ok s1 b1 hx) s1.core.sub
    refine ⟨.inl ⟨rfl, vs, SqL.of q1⟩, env1, pend, τ1, Hs1, s1, opnd h1 fun qv env2 τ2 u H2 Hs2 e2 s2 b2 h2 => ?_⟩
    obtain ⟨x, ex, h3⟩ := prd_of h2
    obtain ⟨y, ey, h4⟩ := prd_of h3
    obtain ⟨z, hz, h5⟩ := prd_of h4
    have rx := look_ok s2 (b1.sub e2) ex
    have ry := look_ok s2 b2 ey
    cases x with
    | list xs =>
      have hz' : (if SeqAt.shaped (.list xs) && SeqAt.shaped y then (xs.findIdx? fun z => PyData.eqv z y).map fun j => Rv.sh (.d (.int (j : Nat))) else none) = some z := hz
      split at hz'
      · rename_i hc
        rw [Bool.and_eq_true] at hc
        obtain ⟨j, hj, rfl⟩ := Option.map_eq_some_iff.mp hz'
        obtain ⟨hjl, hj1, hj2⟩ := List.findIdx?_eq_some_iff_getElem.mp hj
        refine ⟨ad, u, y, xs, j, xs[j], rfl, rfl, by rw [G.hK]; exact (rx.dp s2.core.sub).dp, by rw [G.hK]; exact (ry.dp s2.core.sub).dp, hc.1, hc.2, List.getElem?_eq_getElem hjl, hj1, fun m z' hm hz' => ?_, fin_sh h5 s2 (.int _)⟩
        obtain ⟨_, e⟩ := List.getElem?_eq_some_iff.mp hz'
        have := hj2 m hm
        rw [e] at this
        exact Bool.eq_false_iff.mpr this
      · cases hz'
    | _ => cases hz
  · exact h1.elim
/-! ### len(set(t)), t a tuple of different whole numbers -/
theorem nodup_len {ns ks : List Int} (h1 : ns.Nodup) (h2 : ks.Nodup) (h : ∀ k, k ∈ ns ↔ k ∈ ks) : ks.length = ns.length :=
  ((List.perm_ext_iff_of_nodup h1 h2).mpr h).length_eq.symm
def tLenSetT (K : PySem.W.Frag) (ta : TE) : TE := fun σ H Q => ta σ H fun x H1 => ∃ (l : Addr) (ns : List Int), x = V.ref l ∧ SqT K H1 l (ns.map V.int) ∧ ns.length < 64 ∧ ns.Nodup ∧ Q (.int ns.length) H1
theorem pe_lenSetT {a : Expr} {ta : TE} {p p2 q pos : Pos} (hc : X.calm = true) (hg : Gl X "len") (hm : X.mg "len" = none) (hg2 : Gl X "set") (hm2 : X.mg "set" = none) (ha : PE X a ta)
    (na : starEach [a] X.env = (false, eval a X.env) :: starEach [] X.env) : PE X (.Call (.Name "len" p) [.Call (.Name "set" p2) [a] [] q] [] pos) (tLenSetT X.K ta) := by
  refine ⟨fun pins s σ H Q I h => ?_⟩
  refine Call_ (ld_blt I hg hm PySem.boot_len ?_)
  refine PyProof.Rows.callWith_builtin1 (PyProof.Rows.args_cons ?_ rfl) rfl rfl
  refine Call_ (ld_blt I hg2 hm2 PyProof.Rows.boot_set ?_)
  refine PyProof.Rows.callWith_type1 (PyProof.Rows.args_cons (thn (ha.run pins s σ H _ I h) fun v s1 ⟨x, H1, I1, r1, q1⟩ => PyProof.Rows.args_nil ?_) na) na rfl
  obtain ⟨l, ns, rfl, hq, h1, hnd, q1⟩ := q1
  cases r1
  obtain ⟨its, r, pl, hz⟩ := I1.tuple hq
  refine call_set_tupI ns (I1.ok.hd hc) (show s1.heap.IsTuple l its.toArray from pl) (by simpa using r.ints) (by unfold scanBound; omega) fun h' tk n hS hn hk => ?_
  refine PyProof.Rows.args_nil ?_
  obtain ⟨o, es, ep, t, ho, hex, hd, _, hnk, hmem, _, hf, hsz, _⟩ := hS
  have I2 : Inv X pins σ H1 { s1 with heap := h', toks := tk } := I1.kept hk
  have hl : es.size = ns.length := by
    have := nodup_len hnd hnk fun k => by rw [← hmem k]; simp
    simpa using this
  exact call_len_set ho hex hd hf (by rw [hl]; omega) ⟨.int ns.length, H1, I2.tok _, ⟨_, by rw [hl]⟩, q1⟩
theorem c_lenSet (G : Good X W c Φ g) {a : E} {a' : Expr} {p p2 q pos : Pos} (hl : Gl X "len") (hr : Gl X "set") (ha : PE X a' (tE Φ c W a)) (na : starEach [a'] X.env = (false, eval a' X.env) :: starEach [] X.env) :
    PE X (.Call (.Name "len" p) [.Call (.Name "set" p2) [a'] [] q] [] pos) (tE Φ c W (.p1 .lenSet a)) := by
  refine pe_imp (pe_lenSetT G.calm hl (G.blt _ (by simp [bltNames])) hr (G.blt _ (by simp [bltNames])) ha na) fun σ H Q ⟨env, pend, τ, Hs, s, h⟩ => ⟨env, pend, τ, Hs, s, opnd h fun rv env1 τ1 v H1 Hs1 e1 s1 b1 h1 => ?_⟩
  obtain ⟨x, ex, h2⟩ := prd_of h1
  obtain ⟨z, hz, h3⟩ := prd_of h2
  cases x with
  | tuple xs =>
    have hz' : (match intsD xs with
      | some ns => if decide ns.Nodup && decide (ns.length < 64) then some (Rv.sh (.d (.int ns.length))) else none
      | none => none) = some z := hz
    split at hz'
    · rename_i ns hi
      split at hz'
      · rename_i hc
        rw [Bool.and_eq_true] at hc
        cases hz'
        obtain ⟨l, vs, rfl, q1, q2, _⟩ := rpB_tup (look_ok s1 b1 ex) s1.core.sub
        have hv : vs = ns.map V.int := intsD_rp hi q2
        subst hv
        exact ⟨l, ns, rfl, by rw [G.hK]; exact q1, of_decide_eq_true hc.2, of_decide_eq_true hc.1, fin_sh h3 s1 (.int _)⟩
      · cases hz'
    · cases hz'
  | _ => cases hz
end
end Dv

set_option Elab.async false
set_option linter.all false
set_option maxRecDepth 100000
set_option maxHeartbeats 2000000
/-! Dv13: a def's text against the language's terms, by a Bool; what it says. -/
namespace Dv
open PySem PySem.Spec PyProof.Rows L2
/-- where a text stands: the slots' names, the scope, whose cells are one's own -/
structure Ck where
  N : List Str
  sc : Scope
  fn : Str → Bool
  ref : Option (Str × Str) := none
def Ck.in (k : Ck) (scope : Scope) : Ck := ⟨k.N, relS scope k.sc, fun x => scope.names.lookup x == some .cell, none⟩
structure CkOk (c : Fc) (Φ : Orc) (g : Sig) (k : Ck) (X : Cx) : Prop where
  N : X.N = k.N
  sc : X.env.scope = k.sc
  fn : X.fn = k.fn
  kind : k.sc.kind = .function
  ref : ∀ q, k.ref = some q → RefOk X c Φ g q.1 q.2
mutual
def sameD : D → D → Bool
  | .none, .none => true
  | .bool a, .bool b => a == b
  | .int a, .int b => decide (a = b)
  | .str a, .str b => decide (a = b)
  | .list a, .list b => sameDs a b
  | .tuple a, .tuple b => sameDs a b
  | _, _ => false
def sameDs : List D → List D → Bool
  | [], [] => true
  | x :: xs, y :: ys => sameD x y && sameDs xs ys
  | _, _ => false
end
mutual
theorem sameD_ok : ∀ {a b : D}, sameD a b = true → a = b
  | .none, b, h => by cases b <;> first | rfl | cases h
  | .bool x, b, h => by
    cases b <;> first | cases h; done | skip
    rw [eq_of_beq (show (x == _) = true from h)]
  | .int x, b, h => by
    cases b <;> first | cases h; done | skip
    rw [of_decide_eq_true (show decide (x = _) = true from h)]
  | .str x, b, h => by
    cases b <;> first | cases h; done | skip
    rw [of_decide_eq_true (show decide (x = _) = true from h)]
  | .list x, b, h => by
    cases b <;> first | cases h; done | skip
    rw [sameDs_ok (show sameDs x _ = true from h)]
  | .tuple x, b, h => by
    cases b <;> first | cases h; done | skip
    rw [sameDs_ok (show sameDs x _ = true from h)]
  | .dict x, b, h => by cases b <;> cases h
theorem sameDs_ok : ∀ {a b : List D}, sameDs a b = true → a = b
  | [], b, h => by cases b <;> first | rfl | cases h
  | x :: xs, b, h => by
    cases b with
    | nil => cases h
    | cons y ys =>
      have h' : (sameD x y && sameDs xs ys) = true := h
      rw [Bool.and_eq_true] at h'
      rw [sameD_ok h'.1, sameDs_ok h'.2]
end
section
variable (k : Ck)
def visB (n : Str) : Bool := match k.sc.names.lookup n with
  | some .local => true
  | some .cell => true
  | some .free => true
  | _ => false
def locB (n : Str) : Bool := match k.sc.names.lookup n with
  | some .local => true
  | some .cell => true
  | _ => false
def isLoc (n : Str) : Bool := decide (k.sc.names.lookup n = some .local)
def glB (n : Str) : Bool := decide (k.sc.names.lookup n = some .globalImplicit)
def nmB (n : Str) : Bool := !(n == ("__debug__" : Str)) && !(n == ("__classdict__" : Str))
def atB (i : Nat) (n : Str) : Bool := decide (k.N[i]? = some n)
end
/-- inside a lambda -/
def Ck.lam (k : Ck) (scope : Scope) : Ck := ⟨k.N, scope, fun _ => false, none⟩
def notStar : Expr → Bool
  | .Starred .. => false
  | _ => true
def plainIx : Expr → Bool
  | .Slice .. => false
  | _ => true
def plainT : Expr → Bool
  | .UnaryOp .Not _ _ => false
  | .BoolOp .. => false
  | .IfExp .. => false
  | .Compare .. => false
  | _ => true
def notSet : Expr → Bool
  | .Set .. => false
  | _ => true
def notComp : Expr → Bool
  | .ListComp .. => false
  | .SetComp .. => false
  | .DictComp .. => false
  | _ => true
/-- several values behind and, or: the rest -/
def restB (op : BoolOp) (pos : Pos) : List Expr → Expr
  | [x] => x
  | xs => .BoolOp op xs pos
mutual
def chkTg (k : Ck) : Tg → Expr → Bool
  | .name i, .Name n _ => atB k i n && locB k n && (k.fn n || isLoc k n)
  | .tup ts, .Tuple es _ _ => chkTgs k ts es
  | _, _ => false
def chkTgs (k : Ck) : List Tg → List Expr → Bool
  | [], [] => true
  | t :: ts, e :: es => chkTg k t e && notStar e && chkTgs k ts es
  | _, _ => false
end
/-- an iterator's form: the arguments -/
def iterArgs (k : Ck) (ik : IK) (tg iter : Expr) : Option (List Expr) := match ik, iter with
  | .seq, e => some [e]
  | .range1, .Call (.Name n _) [a] [] _ => if decide (n = "range") && glB k n then some [a] else none
  | .range2, .Call (.Name n _) [a, b] [] _ => if decide (n = "range") && glB k n then some [a, b] else none
  | .zip, .Call (.Name n _) [a, b] [] _ => match tg with
    | .Tuple .. => if decide (n = "zip") && glB k n then some [a, b] else none
    | _ => none
  | .enum, .Call (.Name n _) [a] [] _ => match tg with
    | .Tuple .. => if decide (n = "enumerate") && glB k n then some [a] else none
    | _ => none
  | .rev, .Call (.Name n _) [a] [] _ => if decide (n = "reversed") && glB k n then some [a] else none
  | _, _ => none
section
variable (g : Sig)
mutual
def chkE : Ck → E → Expr → Bool
  | k, .var i, .Name n _ => atB k i n && visB k n && nmB n
  | _, .cI i, .Constant (.int j) _ _ => decide (i = j)
  | _, .cB i, .Constant (.bool j) _ _ => i == j
  | _, .cN, .Constant .none _ _ => true
  | _, .cS i, .Constant (.str j) _ _ => decide (i = j)
  | k, .glo x d, .Name n _ => decide (x = n) && glB k n && nmB n && (match g.cst.lookup n with
    | some d' => sameD d d'
    | none => false)
  | k, .neg a, .UnaryOp .USub a' _ => chkE k a a'
  | k, .not_ a, .UnaryOp .Not a' _ => chkE k a a'
  | k, .bin o a b, .BinOp a' o' b' _ => decide (opOf o = o') && chkE k a a' && chkE k b b'
  | k, .cmp o a b, .Compare a' [o'] [b'] _ => decide (copOf o = o') && chkE k a a' && chkE k b b' && !behindInMarks o' b'
  | k, .isN a, .Compare a' [.Is] [.Constant .none _ _] _ => chkE k a a'
  | k, .notN a, .Compare a' [.IsNot] [.Constant .none _ _] _ => chkE k a a'
  | k, .chain o o' a b c, .Compare a' [p, p'] [b', c'] _ => decide (copOf o = p) && decide (copOf o' = p') && chkE k a a' && chkE k b b' && chkE k c c' && !lastMarks [p, p'] [b', c']
  | k, .and_ a b, .BoolOp .And (a' :: b' :: r) pos => chkE k a a' && chkE k b (restB .And pos (b' :: r))
  | k, .or_ a b, .BoolOp .Or (a' :: b' :: r) pos => chkE k a a' && chkE k b (restB .Or pos (b' :: r))
  | k, .ite t a b, .IfExp t' a' b' _ => chkT k t t' && chkE k a a' && chkE k b b'
  | k, .tup xs, .Tuple es _ _ => chkA k xs es
  | k, .lst xs, .List es _ => chkA k xs es
  | k, .idx a i, .Subscript a' i' _ => chkE k a a' && chkE k i i' && plainIx i'
  | k, .sli a lo hi, .Subscript a' (.Slice lo' hi' none _) _ => chkE k a a' && chkO k lo lo' && chkO k hi hi'
  | k, .call f xs, .Call (.Name n _) (e :: es) [] _ => decide (f = n) && glB k n && nmB n && decide ((f, (e :: es).length) ∈ g.fns) && chkA k xs (e :: es)
  | k, .refused x cl e, .Call (.Name n _) [.Lambda ⟨[], [], none, [], [], none, []⟩ body scope _] [] _ => decide (k.ref = some (x, cl)) && decide (x = n) && glB k n && nmB n && LamX.lamSB k.sc scope && chkE (k.lam scope) e body
  | k, .blt f xs, .Call (.Name n _) (e :: es) [] _ => decide (nmOf f = n) && glB k n && chkA k xs (e :: es)
  | k, .comp elt tg ik its cond own, .ListComp elt' [⟨tg', iter', ifs', 0⟩] scope _ => (match iterArgs k ik tg' iter' with
      | some as => chkA k its as
      | none => false) && blkC k.N k.sc scope own && chkTg (k.in scope) tg tg' && (match ifs' with
      | [] => (match cond with
        | .yes => true
        | _ => false)
      | [c] => chkT (k.in scope) cond c
      | _ => false) && chkE (k.in scope) elt elt' && ((tgIx tg).all fun i => decide (i ∈ own.map (·.2))) && notSet iter'
  | k, .tget i f, .Subscript (.Name n _) (.Constant (.str s) _ _) _ => decide (fName f = s) && atB k i n && visB k n && nmB n
  | k, .pop i, .Call (.Attribute (.Name n _) m apos) [] [] cpos => decide (m = "pop") && atB k i n && visB k n && nmB n && (apos.endLine == cpos.line)
  | k, .popAt i a, .Call (.Attribute (.Name n _) m apos) [a'] [] cpos => decide (m = "pop") && atB k i n && visB k n && nmB n && (apos.endLine == cpos.line) && chkE k a a' && notStar a'
  | k, .p1 .listRange a, .Call (.Name l _) [.Call (.Name r _) [a'] [] _] [] _ => decide (l = "list") && glB k l && decide (r = "range") && glB k r && chkE k a a' && notStar a'
  | k, .p1 .lenSet a, .Call (.Name l _) [.Call (.Name r _) [a'] [] _] [] _ => decide (l = "len") && glB k l && decide (r = "set") && glB k r && chkE k a a' && notStar a'
  | k, .p1 (.isB b) a, .Compare a' [.Is] [.Constant (.bool b') _ _] _ => decide (b = b') && chkE k a a'
  | k, .p1 (.notB b) a, .Compare a' [.IsNot] [.Constant (.bool b') _ _] _ => decide (b = b') && chkE k a a'
  | k, .p2 .index a b, .Call (.Attribute (.Name n p) m apos) [b'] [] cpos => decide (m = "index") && (apos.endLine == cpos.line) && chkE k a (.Name n p) && chkE k b b' && notStar b'
  | _, _, _ => false
def chkA : Ck → Es → List Expr → Bool
  | _, .nil, [] => true
  | k, .cons e es, e' :: es' => chkE k e e' && notStar e' && chkA k es es'
  | _, _, _ => false
def chkT : Ck → T → Expr → Bool
  | k, .and_ a b, .BoolOp .And (a' :: b' :: r) pos => chkT k a a' && chkT k b (restB .And pos (b' :: r))
  | k, .or_ a b, .BoolOp .Or (a' :: b' :: r) pos => chkT k a a' && chkT k b (restB .Or pos (b' :: r))
  | k, .not_ a, .UnaryOp .Not a' _ => chkT k a a'
  | k, .chain o o' a b c, .Compare a' [p, p'] [b', c'] _ => decide (copOf o = p) && decide (copOf o' = p') && chkE k a a' && chkE k b b' && chkE k c c' && !lastMarks [p, p'] [b', c']
  | k, .val e, e' => chkE k e e' && plainT e'
  | k, .cmp o a b, .Compare a' [o'] [b'] _ => decide (copOf o = o') && chkE k a a' && chkE k b b' && !behindInMarks o' b'
  | k, .isN a, .Compare a' [.Is] [.Constant .none _ _] _ => chkE k a a'
  | k, .notN a, .Compare a' [.IsNot] [.Constant .none _ _] _ => chkE k a a'
  | k, .p1 (.isB b) a, .Compare a' [.Is] [.Constant (.bool b') _ _] _ => decide (b = b') && chkE k a a'
  | k, .p1 (.notB b) a, .Compare a' [.IsNot] [.Constant (.bool b') _ _] _ => decide (b = b') && chkE k a a'
  | _, _, _ => false
def chkO : Ck → O → Option Expr → Bool
  | _, .miss, none => true
  | k, .val e, some e' => chkE k e e'
  | _, _, _ => false
end
end
/-! ### the side conditions -/
theorem star_plain {e : Expr} (h : notStar e = true) (es : List Expr) (env : PySem.Env) : starEach (e :: es) env = (false, eval e env) :: starEach es env := by
  cases e <;> first | rfl | cases h
theorem star_none : ∀ {es : List Expr} {env : PySem.Env} {pos : Pos}, (∀ e ∈ es, notStar e = true) → (backTo pos (starEach es env)).any (·.1) = false
  | [], _, _, _ => rfl
  | e :: es, env, pos, h => by
    rw [star_plain (h e List.mem_cons_self)]
    show (false || (backTo pos (starEach es env)).any (·.1)) = false
    rw [star_none fun x hx => h x (List.mem_cons_of_mem _ hx)]
    rfl
theorem plainIx_ok {e : Expr} (h : plainIx e = true) : PlainIx e := by
  intro o i
  cases e <;> first | rfl | cases h
theorem plainT_ok {e : Expr} (h : plainT e = true) (env : PySem.Env) : ∀ whole, isTrue e env whole = (do let v ← whole; standAt e.pos; holding [v] (truthy v)) := by
  intro whole
  cases e with
  | UnaryOp op _ _ => cases op <;> first | rfl | cases h
  | _ => first | rfl | cases h
theorem notSet_ok {e : Expr} (h : notSet e = true) (env : PySem.Env) : ∀ x, foldedSetIterable e env x = pure x := by
  intro x
  cases e <;> first | rfl | cases h
theorem notComp_ok {e : Expr} (h : notComp e = true) (t : Option Expr) (l : Nat) (env : PySem.Env) : swapsWith e t l env = pure false := by
  cases e <;> first | rfl | cases h
theorem pe_bool1 {X : Cx} {op : BoolOp} {a : Expr} {t : TE} {pos : Pos} (ha : PE X a t) : PE X (.BoolOp op [a] pos) t := ⟨fun pins s σ H Q I h => by
  show wpAny _ _ (boolOp pos op (evalEach [a] X.env)) _ _ _
  exact ha.run pins s σ H Q I h⟩
section
variable {X : Cx} {c : Fc} {Φ : Orc} {g : Sig} {k : Ck} {n : Str}
theorem visB_ok (C : CkOk c Φ g k X) (h : visB k n = true) : Vis X.env.scope n := by
  rw [C.sc]
  unfold visB at h
  split at h
  · exact .inl (by assumption)
  · exact .inr (.inl (by assumption))
  · exact .inr (.inr (by assumption))
  · cases h
theorem locB_ok (C : CkOk c Φ g k X) (h : locB k n = true) : Loc X.env.scope n := by
  rw [C.sc]
  unfold locB at h
  split at h
  · exact .inl (by assumption)
  · exact .inr (by assumption)
  · cases h
theorem isLoc_ok (C : CkOk c Φ g k X) (h : isLoc k n = true) : X.env.scope.names.lookup n = some .local := by
  rw [C.sc]
  exact of_decide_eq_true h
theorem glB_ok (C : CkOk c Φ g k X) (h : glB k n = true) : Gl X n := by
  show X.env.scope.names.lookup n = _
  rw [C.sc]
  exact of_decide_eq_true h
theorem atB_ok (C : CkOk c Φ g k X) {i : Nat} (h : atB k i n = true) : X.N[i]? = some n := by
  rw [C.N]
  exact of_decide_eq_true h
theorem nmB_ok (h : nmB n = true) : (n == ("__debug__" : Str)) = false ∧ (n == ("__classdict__" : Str)) = false := by
  unfold nmB at h
  rw [Bool.and_eq_true, Bool.not_eq_true', Bool.not_eq_true'] at h
  exact h
theorem fnB_ok (C : CkOk c Φ g k X) (h : (k.fn n || isLoc k n) = true) : X.fn n = true ∨ X.env.scope.names.lookup n = some .local := by
  rw [Bool.or_eq_true] at h
  rcases h with h | h
  · exact .inl (by rw [C.fn]; exact h)
  · exact .inr (isLoc_ok C h)
theorem CkOk.blk (C : CkOk c Φ g k X) {scope : Scope} {own : List (Str × Nat)} (h : blkC k.N k.sc scope own = true) (s : Shared) (H : Hp) (D : Addr) (cl : List (Str × Addr)) (fp : List Addr) : CkOk c Φ g (k.in scope) (X.blk s H scope (compEnvC scope cl D X.env) fp) := by
  refine ⟨C.N, ?_, rfl, (blkOk_by h).kind, fun q hq => nomatch hq⟩
  show relS scope X.env.scope = relS scope k.sc
  rw [C.sc]
end
theorem lookup_mem' {α : Type} {l : List (Str × α)} {n : Str} {d : α} (h : l.lookup n = some d) : (n, d) ∈ l := PySem.mem_of_lookup h
section
variable {c : Fc} {Φ : Orc} {g : Sig}
mutual
theorem chkTg_ok {X : Cx} {W : WX} {k : Ck} (C : CkOk c Φ g k X) (G : Good X W c Φ g) : ∀ {t : Tg} {e : Expr}, chkTg k t e = true → PG X e (tG c t)
  | .name i, e, h => by
    cases e <;> first | cases h; done | skip
    unfold chkTg at h
    rw [Bool.and_eq_true, Bool.and_eq_true] at h
    exact g_name G (atB_ok C h.1.1) (locB_ok C h.1.2) (fnB_ok C h.2)
  | .tup ts, e, h => by
    cases e <;> first | cases h; done | skip
    rename_i es kk pos
    have h' : chkTgs k ts es = true := h
    obtain ⟨h1, h2, h3⟩ := chkTgs_ok C G h'
    exact g_tup G h1 h2 h3
theorem chkTgs_ok {X : Cx} {W : WX} {k : Ck} (C : CkOk c Φ g k X) (G : Good X W c Φ g) : ∀ {ts : List Tg} {es : List Expr}, chkTgs k ts es = true → PGs X es (tGs c ts) ∧ (assignEach es X.env).length = ts.length ∧ (assignEach es X.env).findIdx? (·.1) = none
  | [], es, h => by
    cases es with
    | nil => exact ⟨gs_nil, rfl, rfl⟩
    | cons _ _ => cases h
  | t :: ts, es, h => by
    cases es with
    | nil => cases h
    | cons e es =>
      unfold chkTgs at h
      rw [Bool.and_eq_true, Bool.and_eq_true] at h
      obtain ⟨h1, h2, h3⟩ := chkTgs_ok C G h.2
      have ha : assignEach (e :: es) X.env = (false, assign e X.env) :: assignEach es X.env := by
        have hn := h.1.2
        cases e <;> first | rfl | cases hn
      refine ⟨gs_cons (chkTg_ok C G h.1.1) h1 (by rw [ha]; rfl), by rw [ha]; exact congrArg (· + 1) h2, ?_⟩
      rw [ha, List.findIdx?_cons]
      simp [h3]
end
end
end Dv

set_option Elab.async false
set_option linter.all false
set_option maxRecDepth 100000
set_option maxHeartbeats 4000000
/-! Dv14: what the Bool says of expressions. -/
namespace Dv
open PySem PySem.Spec PyProof.Rows L2
section
variable {c : Fc} {Φ : Orc} {g : Sig}
theorem rest_and {X : Cx} {b' : Expr} {r : List Expr} {pos : Pos} {t : TE} (h : PE X (restB .And pos (b' :: r)) t) : PE X (.BoolOp .And (b' :: r) pos) t := by
  cases r with
  | nil => exact pe_bool1 h
  | cons _ _ => exact h
theorem rest_or {X : Cx} {b' : Expr} {r : List Expr} {pos : Pos} {t : TE} (h : PE X (restB .Or pos (b' :: r)) t) : PE X (.BoolOp .Or (b' :: r) pos) t := by
  cases r with
  | nil => exact pe_bool1 h
  | cons _ _ => exact h
/-- a test's two readings -/
def PTW (X : Cx) (e : Expr) (t : TT) : Prop := PT X e t ∧ ∀ op es pos, e = .BoolOp op es pos → PW X e t
theorem PTW.of {X : Cx} {e : Expr} {t : TT} (h : PT X e t) (n : ∀ op es pos, e ≠ .BoolOp op es pos) : PTW X e t := ⟨h, fun op es pos z => absurd z (n op es pos)⟩
theorem PTW.ofW {X : Cx} {e : Expr} {t : TT} (h : PW X e t) : PTW X e t := ⟨h.pt, fun _ _ _ _ => h⟩
theorem restT_and {X : Cx} {b' : Expr} {r : List Expr} {pos : Pos} {t : TT} (h : PTW X (restB .And pos (b' :: r)) t) : PW X (.BoolOp .And (b' :: r) pos) t := by
  cases r with
  | nil => exact pw_and1 h.1
  | cons _ _ => exact h.2 _ _ _ rfl
theorem restT_or {X : Cx} {b' : Expr} {r : List Expr} {pos : Pos} {t : TT} (h : PTW X (restB .Or pos (b' :: r)) t) : PW X (.BoolOp .Or (b' :: r) pos) t := by
  cases r with
  | nil => exact pw_or1 h.1
  | cons _ _ => exact h.2 _ _ _ rfl
def Es.len : Es → Nat
  | .nil => 0
  | .cons _ es => es.len + 1
theorem evA_len : ∀ {xs : Es} {env : Env} {τ : Tp} {rs : List Rv} {env' : Env} {τ' : Tp}, evA Φ xs env τ = .ok rs env' τ' → rs.length = xs.len
  | .nil, _, _, _, _, _, h => by
    simp only [evA] at h
    cases h
    rfl
  | .cons e es, _, _, _, _, _, h => by
    simp only [evA] at h
    obtain ⟨r, e1, t1, _, h⟩ := bind_ok h
    obtain ⟨rs, e2, t2, h2, h⟩ := bind_ok h
    cases h
    exact congrArg (· + 1) (evA_len h2)
theorem chkA_len {k : Ck} : ∀ {xs : Es} {es : List Expr}, chkA g k xs es = true → xs.len = es.length ∧ ∀ e ∈ es, notStar e = true
  | .nil, es, h => by
    cases es with
    | nil => exact ⟨rfl, fun e he => by simp at he⟩
    | cons _ _ =>
      unfold chkA at h
      cases h
  | .cons x xs, es, h => by
    cases es with
    | nil =>
      unfold chkA at h
      cases h
    | cons e es =>
      unfold chkA at h
      rw [Bool.and_eq_true, Bool.and_eq_true] at h
      obtain ⟨h1, h2⟩ := chkA_len h.2
      refine ⟨congrArg (· + 1) h1, fun y hy => ?_⟩
      rcases List.mem_cons.mp hy with rfl | hy
      · exact h.1.2
      · exact h2 y hy
theorem iter_ok {X : Cx} {W : WX} {k : Ck} (C : CkOk c Φ g k X) (G : Good X W c Φ g) {ik : IK} {its : Es} {tg iter : Expr} {as : List Expr} (h : iterArgs k ik tg iter = some as) (hck : chkA g k its as = true) (ha : PA X as (tA Φ c W its)) (h1 : ∀ e x, its = .cons e .nil → as = [x] → PE X x (tE Φ c W e)) : PI X tg iter (tI Φ c W ik its) := by
  obtain ⟨hl, hs⟩ := chkA_len hck
  have one : ∀ {x : Expr}, as = [x] → ∃ e, its = .cons e .nil := fun {x} e => by
    rw [e] at hl
    cases its with
    | nil => cases hl
    | cons e es =>
      cases es with
      | nil => exact ⟨e, rfl⟩
      | cons _ _ => cases hl
  unfold iterArgs at h
  split at h
  · cases h
    obtain ⟨e, rfl⟩ := one rfl
    exact i_seq G (h1 e _ rfl rfl)
  · split at h
    · rename_i hc
      cases h
      rw [Bool.and_eq_true] at hc
      have hn := of_decide_eq_true hc.1
      subst hn
      exact i_range1 G (glB_ok C hc.2) ha (star_plain (hs _ (by simp)) [] _)
    · cases h
  · split at h
    · rename_i hc
      cases h
      rw [Bool.and_eq_true] at hc
      have hn := of_decide_eq_true hc.1
      subst hn
      exact i_range2 G (glB_ok C hc.2) ha (by rw [star_plain (hs _ (by simp)), star_plain (hs _ (by simp))]; rfl) (star_plain (hs _ (by simp)) [] _)
    · cases h
  · split at h
    · split at h
      · rename_i hc
        cases h
        rw [Bool.and_eq_true] at hc
        have hn := of_decide_eq_true hc.1
        subst hn
        exact i_zip G (glB_ok C hc.2) ha (star_plain (hs _ (by simp)) _ _) (star_none fun x hx => hs x (by simp at hx; simp [hx]))
      · cases h
    · cases h
  · split at h
    · split at h
      · rename_i hc
        cases h
        rw [Bool.and_eq_true] at hc
        have hn := of_decide_eq_true hc.1
        subst hn
        exact i_enum G (glB_ok C hc.2) ha (star_plain (hs _ (by simp)) _ _)
      · cases h
    · cases h
  · split at h
    · rename_i hc
      cases h
      rw [Bool.and_eq_true] at hc
      have hn := of_decide_eq_true hc.1
      subst hn
      obtain ⟨e, rfl⟩ := one rfl
      exact i_rev G (glB_ok C hc.2) (h1 e _ rfl rfl) (star_plain (hs _ (by simp)) _ _)
    · cases h
  · cases h
mutual
theorem chkE_ok : ∀ (e : E) {c : Fc} {X : Cx} {W : WX} {k : Ck} {e' : Expr}, CkOk c Φ g k X → Good X W c Φ g → chkE g k e e' = true → PE X e' (tE Φ c W e)
  | .var i, c, X, W, k, e', C, G, h => by
    unfold chkE at h
    split at h
    all_goals first
      | (rename_i h1; cases h1; done)
      | (cases h; done)
      | skip
    rename_i heq
    cases heq
    rw [Bool.and_eq_true, Bool.and_eq_true] at h
    exact c_var G (atB_ok C h.1.1) (visB_ok C h.1.2) (nmB_ok h.2).1 (nmB_ok h.2).2
  | .cI i, c, X, W, k, e', C, G, h => by
    unfold chkE at h
    split at h
    all_goals first
      | (rename_i h1; cases h1; done)
      | (cases h; done)
      | skip
    rename_i heq
    cases heq
    have := of_decide_eq_true h
    subst this
    exact c_cI
  | .cB i, c, X, W, k, e', C, G, h => by
    unfold chkE at h
    split at h
    all_goals first
      | (rename_i h1; cases h1; done)
      | (cases h; done)
      | skip
    rename_i heq
    cases heq
    have := eq_of_beq h
    subst this
    exact c_cB
  | .cN, c, X, W, k, e', C, G, h => by
    unfold chkE at h
    split at h
    all_goals first
      | (rename_i h1; cases h1; done)
      | (cases h; done)
      | skip
    exact c_cN
  | .cS i, c, X, W, k, e', C, G, h => by
    unfold chkE at h
    split at h
    all_goals first
      | (rename_i h1; cases h1; done)
      | (cases h; done)
      | skip
    rename_i heq
    cases heq
    have := of_decide_eq_true h
    subst this
    exact c_cS
  | .glo x d, c, X, W, k, e', C, G, h => by
    unfold chkE at h
    split at h
    all_goals first
      | (rename_i h1; cases h1; done)
      | (cases h; done)
      | skip
    rename_i heq
    cases heq
    rw [Bool.and_eq_true, Bool.and_eq_true, Bool.and_eq_true] at h
    have := of_decide_eq_true h.1.1.1
    subst this
    have h4 := h.2
    split at h4
    · rename_i d' hd
      have := sameD_ok h4
      subst this
      exact c_glo G (glB_ok C h.1.1.2) (lookup_mem' hd) (nmB_ok h.1.2).1
    · cases h4
  | .neg a, c, X, W, k, e', C, G, h => by
    unfold chkE at h
    split at h
    all_goals first
      | (rename_i h1; cases h1; done)
      | (cases h; done)
      | skip
    rename_i heq
    cases heq
    exact c_neg (chkE_ok a C G h)
  | .not_ a, c, X, W, k, e', C, G, h => by
    unfold chkE at h
    split at h
    all_goals first
      | (rename_i h1; cases h1; done)
      | (cases h; done)
      | skip
    rename_i heq
    cases heq
    exact c_not G (chkE_ok a C G h)
  | .bin o a b, c, X, W, k, e', C, G, h => by
    unfold chkE at h
    split at h
    all_goals first
      | (rename_i h1; cases h1; done)
      | (cases h; done)
      | skip
    rename_i heq
    cases heq
    rw [Bool.and_eq_true, Bool.and_eq_true] at h
    have := of_decide_eq_true h.1.1
    subst this
    exact c_bin G (chkE_ok a C G h.1.2) (chkE_ok b C G h.2)
  | .cmp o a b, c, X, W, k, e', C, G, h => by
    unfold chkE at h
    split at h
    all_goals first
      | (rename_i h1; cases h1; done)
      | (cases h; done)
      | skip
    rename_i heq
    cases heq
    rw [Bool.and_eq_true, Bool.and_eq_true, Bool.and_eq_true, Bool.not_eq_true'] at h
    have := of_decide_eq_true h.1.1.1
    subst this
    exact c_cmp G (chkE_ok a C G h.1.1.2) (chkE_ok b C G h.1.2) h.2
  | .isN a, c, X, W, k, e', C, G, h => by
    unfold chkE at h
    split at h
    all_goals first
      | (rename_i h1; cases h1; done)
      | (cases h; done)
      | skip
    rename_i heq
    cases heq
    exact c_isN (chkE_ok a C G h)
  | .notN a, c, X, W, k, e', C, G, h => by
    unfold chkE at h
    split at h
    all_goals first
      | (rename_i h1; cases h1; done)
      | (cases h; done)
      | skip
    rename_i heq
    cases heq
    exact c_notN (chkE_ok a C G h)
  | .chain o o' a b d, c, X, W, k, e', C, G, h => by
    unfold chkE at h
    split at h
    all_goals first
      | (rename_i h1; cases h1; done)
      | (cases h; done)
      | skip
    rename_i heq
    cases heq
    simp only [Bool.and_eq_true, Bool.not_eq_true'] at h
    obtain ⟨⟨⟨⟨⟨h1, h2⟩, h3⟩, h4⟩, h5⟩, h6⟩ := h
    have := of_decide_eq_true h1
    subst this
    have := of_decide_eq_true h2
    subst this
    exact c_chain G (chkE_ok a C G h3) (chkE_ok b C G h4) (chkE_ok d C G h5) h6
  | .and_ a b, c, X, W, k, e', C, G, h => by
    unfold chkE at h
    split at h
    all_goals first
      | (rename_i h1; cases h1; done)
      | (cases h; done)
      | skip
    rename_i heq
    cases heq
    rw [Bool.and_eq_true] at h
    exact c_and G (chkE_ok a C G h.1) (rest_and (chkE_ok b C G h.2))
  | .or_ a b, c, X, W, k, e', C, G, h => by
    unfold chkE at h
    split at h
    all_goals first
      | (rename_i h1; cases h1; done)
      | (cases h; done)
      | skip
    rename_i heq
    cases heq
    rw [Bool.and_eq_true] at h
    exact c_or G (chkE_ok a C G h.1) (rest_or (chkE_ok b C G h.2))
  | .ite t a b, c, X, W, k, e', C, G, h => by
    unfold chkE at h
    split at h
    all_goals first
      | (rename_i h1; cases h1; done)
      | (cases h; done)
      | skip
    rename_i heq
    cases heq
    rw [Bool.and_eq_true, Bool.and_eq_true] at h
    exact c_ite (chkT_ok t C G h.1.1).1 (chkE_ok a C G h.1.2) (chkE_ok b C G h.2)
  | .tup xs, c, X, W, k, e', C, G, h => by
    unfold chkE at h
    split at h
    all_goals first
      | (rename_i h1; cases h1; done)
      | (cases h; done)
      | skip
    rename_i heq
    cases heq
    exact c_tup (chkA_ok xs C G h)
  | .lst xs, c, X, W, k, e', C, G, h => by
    unfold chkE at h
    split at h
    all_goals first
      | (rename_i h1; cases h1; done)
      | (cases h; done)
      | skip
    rename_i heq
    cases heq
    exact c_lst (chkA_ok xs C G h)
  | .idx a i, c, X, W, k, e', C, G, h => by
    unfold chkE at h
    split at h
    all_goals first
      | (rename_i h1; cases h1; done)
      | (cases h; done)
      | skip
    rename_i heq
    cases heq
    rw [Bool.and_eq_true, Bool.and_eq_true] at h
    exact c_idx G (chkE_ok a C G h.1.1) (chkE_ok i C G h.1.2) (plainIx_ok h.2)
  | .sli a lo hi, c, X, W, k, e', C, G, h => by
    unfold chkE at h
    split at h
    all_goals first
      | (rename_i h1; cases h1; done)
      | (cases h; done)
      | skip
    rename_i heq
    cases heq
    rw [Bool.and_eq_true, Bool.and_eq_true] at h
    exact c_sli G (chkE_ok a C G h.1.1) (chkO_ok lo C G h.1.2) (chkO_ok hi C G h.2)
  | .call f xs, c, X, W, k, e', C, G, h => by
    unfold chkE at h
    split at h
    all_goals first
      | (rename_i h1; cases h1; done)
      | (cases h; done)
      | skip
    rename_i heq
    cases heq
    simp only [Bool.and_eq_true] at h
    obtain ⟨⟨⟨⟨h1, h2⟩, h3⟩, h4⟩, h5⟩ := h
    have := of_decide_eq_true h1
    subst this
    obtain ⟨l1, l2⟩ := chkA_len h5
    exact c_call G (of_decide_eq_true h4) rfl (glB_ok C h2) (chkA_ok xs C G h5) (fun _ _ _ _ _ hr => by rw [evA_len hr, l1]) (nmB_ok h3).1 (star_plain (l2 _ (by simp)) _ _) (star_none fun x hx => l2 x (List.mem_cons_of_mem _ hx))
  | .refused x cl e, c, X, W, k, e', C, G, h => by
    unfold chkE at h
    split at h
    all_goals first
      | (rename_i h1; cases h1; done)
      | (cases h; done)
      | skip
    rename_i heq
    cases heq
    simp only [Bool.and_eq_true] at h
    obtain ⟨⟨⟨⟨⟨h1, h2⟩, h3⟩, h4⟩, h5⟩, h6⟩ := h
    have := of_decide_eq_true h2
    subst this
    have L := LamX.lamS_by h5
    rw [← C.sc] at L
    refine c_refused G (glB_ok C h3) (nmB_ok h4).1 (C.ref _ (of_decide_eq_true h1)) L fun X' W' c' hN hsc hfn G' => ?_
    refine chkE_ok e ?_ G' h6
    exact ⟨hN.trans C.N, hsc, hfn, L.kind, fun q hq => by cases hq⟩
  | .blt f xs, c, X, W, k, e', C, G, h => by
    unfold chkE at h
    split at h
    all_goals first
      | (rename_i h1; cases h1; done)
      | (cases h; done)
      | skip
    rename_i heq
    cases heq
    simp only [Bool.and_eq_true] at h
    obtain ⟨⟨h1, h2⟩, h5⟩ := h
    have := of_decide_eq_true h1
    subst this
    obtain ⟨l1, l2⟩ := chkA_len h5
    exact c_blt G (glB_ok C h2) (chkA_ok xs C G h5) (star_plain (l2 _ (by simp)) _ _) (star_none fun x hx => l2 x (List.mem_cons_of_mem _ hx))
  | .comp elt tg ik its cond own, c, X, W, k, e', C, G, h => by
    unfold chkE at h
    split at h
    all_goals first
      | (rename_i h1; cases h1; done)
      | (cases h; done)
      | skip
    rename_i heq
    cases heq
    simp only [Bool.and_eq_true] at h
    obtain ⟨⟨⟨⟨⟨⟨h1, h2⟩, h3⟩, h4⟩, h5⟩, h6⟩, h7⟩ := h
    have ok := blkOk_by h2
    rw [← C.N, ← C.sc] at ok
    refine c_comp G ?_ ok (fun s H Cc cl fp => chkTg_ok (C.blk h2 s H Cc cl fp) (G.blk s H _ _ fp) h3) (fun s H Cc cl fp => ?_) (fun s H Cc cl fp => chkE_ok elt (C.blk h2 s H Cc cl fp) (G.blk s H _ _ fp) h5) (fun i hi => ?_) (notSet_ok h7 _)
    · split at h1
      · rename_i as has
        exact iter_ok C G has h1 (chkA_ok its C G h1) (chk1_ok its C G h1)
      · cases h1
    · split at h4
      · split at h4
        · exact ⟨fun pins s σ H Q I ⟨env, pend, τ, Hs, st, q⟩ => pts_nil.run pins s σ H Q I (q true H Hs (Sub.refl _) ⟨rfl, st⟩)⟩
        · cases h4
      · exact pts_one (chkT_ok cond (C.blk h2 s H Cc cl fp) (G.blk s H _ _ fp) h4).1
      · cases h4
    · rw [List.all_eq_true] at h6
      exact of_decide_eq_true (h6 i hi)
  | .tget i f, c, X, W, k, e', C, G, h => by
    unfold chkE at h
    split at h
    all_goals first
      | (rename_i h1; cases h1; done)
      | (cases h; done)
      | skip
    rename_i heq
    cases heq
    simp only [Bool.and_eq_true] at h
    obtain ⟨⟨⟨h1, h2⟩, h3⟩, h4⟩ := h
    have := of_decide_eq_true h1
    subst this
    exact c_tget G (atB_ok C h2) (visB_ok C h3) (nmB_ok h4).1 (nmB_ok h4).2
  | .pop i, c, X, W, k, e', C, G, h => by
    unfold chkE at h
    split at h
    all_goals first
      | (rename_i h1; cases h1; done)
      | (cases h; done)
      | skip
    rename_i heq
    cases heq
    simp only [Bool.and_eq_true] at h
    obtain ⟨⟨⟨⟨h1, h2⟩, h3⟩, h4⟩, h5⟩ := h
    have := of_decide_eq_true h1
    subst this
    exact c_pop G (atB_ok C h2) (visB_ok C h3) (nmB_ok h4).1 (nmB_ok h4).2 h5
  | .popAt i a, c, X, W, k, e', C, G, h => by
    unfold chkE at h
    split at h
    all_goals first
      | (rename_i h1; cases h1; done)
      | (cases h; done)
      | skip
    rename_i heq
    cases heq
    simp only [Bool.and_eq_true] at h
    obtain ⟨⟨⟨⟨⟨⟨h1, h2⟩, h3⟩, h4⟩, h5⟩, h6⟩, h7⟩ := h
    have := of_decide_eq_true h1
    subst this
    exact c_popAt G (atB_ok C h2) (visB_ok C h3) (nmB_ok h4).1 (nmB_ok h4).2 h5 (chkE_ok a C G h6) (by rw [star_plain h7]; rfl) (star_plain h7 _ _)
  | .p1 .listRange a, c, X, W, k, e', C, G, h => by
    unfold chkE at h
    split at h
    all_goals first
      | (rename_i h1; cases h1; done)
      | (cases h; done)
      | skip
    rename_i heq
    cases heq
    simp only [Bool.and_eq_true] at h
    obtain ⟨⟨⟨⟨⟨h1, h2⟩, h3⟩, h4⟩, h5⟩, h6⟩ := h
    have := of_decide_eq_true h1
    subst this
    have := of_decide_eq_true h3
    subst this
    exact c_listRange G (glB_ok C h2) (glB_ok C h4) (chkE_ok a C G h5) (star_plain h6 _ _)
  | .p1 .lenSet a, c, X, W, k, e', C, G, h => by
    unfold chkE at h
    split at h
    all_goals first
      | (rename_i h1; cases h1; done)
      | (cases h; done)
      | skip
    rename_i heq
    cases heq
    simp only [Bool.and_eq_true] at h
    obtain ⟨⟨⟨⟨⟨h1, h2⟩, h3⟩, h4⟩, h5⟩, h6⟩ := h
    have := of_decide_eq_true h1
    subst this
    have := of_decide_eq_true h3
    subst this
    exact c_lenSet G (glB_ok C h2) (glB_ok C h4) (chkE_ok a C G h5) (star_plain h6 _ _)
  | .p1 (.isB b) a, c, X, W, k, e', C, G, h => by
    unfold chkE at h
    split at h
    all_goals first
      | (rename_i h1; cases h1; done)
      | (cases h; done)
      | skip
    rename_i heq
    cases heq
    rw [Bool.and_eq_true] at h
    have := of_decide_eq_true h.1
    subst this
    exact c_isB (chkE_ok a C G h.2)
  | .p1 (.notB b) a, c, X, W, k, e', C, G, h => by
    unfold chkE at h
    split at h
    all_goals first
      | (rename_i h1; cases h1; done)
      | (cases h; done)
      | skip
    rename_i heq
    cases heq
    rw [Bool.and_eq_true] at h
    have := of_decide_eq_true h.1
    subst this
    exact c_notB (chkE_ok a C G h.2)
  | .p2 .index a b, c, X, W, k, e', C, G, h => by
    unfold chkE at h
    split at h
    all_goals first
      | (rename_i h1; cases h1; done)
      | (cases h; done)
      | skip
    rename_i heq
    cases heq
    simp only [Bool.and_eq_true] at h
    obtain ⟨⟨⟨⟨h1, h2⟩, h3⟩, h4⟩, h5⟩ := h
    have := of_decide_eq_true h1
    subst this
    exact c_index G h2 (chkE_ok a C G h3) (chkE_ok b C G h4) (by rw [star_plain h5]; rfl) (star_plain h5 _ _)
theorem chkA_ok : ∀ (xs : Es) {c : Fc} {X : Cx} {W : WX} {k : Ck} {es : List Expr}, CkOk c Φ g k X → Good X W c Φ g → chkA g k xs es = true → PA X es (tA Φ c W xs)
  | .nil, c, X, W, k, es, C, G, h => by
    cases es with
    | nil => exact a_nil
    | cons _ _ =>
      unfold chkA at h
      cases h
  | .cons x xs, c, X, W, k, es, C, G, h => by
    cases es with
    | nil =>
      unfold chkA at h
      cases h
    | cons e es =>
      unfold chkA at h
      rw [Bool.and_eq_true, Bool.and_eq_true] at h
      exact a_cons (chkE_ok x C G h.1.1) (chkA_ok xs C G h.2) (star_plain h.1.2 _ _)
/-- one argument -/
theorem chk1_ok : ∀ (xs : Es) {c : Fc} {X : Cx} {W : WX} {k : Ck} {es : List Expr}, CkOk c Φ g k X → Good X W c Φ g → chkA g k xs es = true → ∀ e x, xs = .cons e .nil → es = [x] → PE X x (tE Φ c W e)
  | .nil, c, X, W, k, es, C, G, h, _, _, z, _ => by cases z
  | .cons y ys, c, X, W, k, es, C, G, h, e, x, z1, z2 => by
    subst z2
    unfold chkA at h
    rw [Bool.and_eq_true, Bool.and_eq_true] at h
    have q := chkE_ok y C G h.1.1
    cases z1
    exact q
theorem chkT_ok : ∀ (t : T) {c : Fc} {X : Cx} {W : WX} {k : Ck} {e' : Expr}, CkOk c Φ g k X → Good X W c Φ g → chkT g k t e' = true → PTW X e' (tT Φ c W t)
  | .yes, c, X, W, k, e', C, G, h => by
    unfold chkT at h
    cases h
  | .and_ a b, c, X, W, k, e', C, G, h => by
    unfold chkT at h
    split at h
    all_goals first
      | (rename_i h1; cases h1; done)
      | (cases h; done)
      | skip
    rename_i heq
    cases heq
    rw [Bool.and_eq_true] at h
    exact .ofW (t_and (chkT_ok a C G h.1).1 (restT_and (chkT_ok b C G h.2)))
  | .or_ a b, c, X, W, k, e', C, G, h => by
    unfold chkT at h
    split at h
    all_goals first
      | (rename_i h1; cases h1; done)
      | (cases h; done)
      | skip
    rename_i heq
    cases heq
    rw [Bool.and_eq_true] at h
    exact .ofW (t_or (chkT_ok a C G h.1).1 (restT_or (chkT_ok b C G h.2)))
  | .not_ a, c, X, W, k, e', C, G, h => by
    unfold chkT at h
    split at h
    all_goals first
      | (rename_i h1; cases h1; done)
      | (cases h; done)
      | skip
    rename_i heq
    cases heq
    exact .of (t_not (chkT_ok a C G h).1) (fun _ _ _ z => nomatch z)
  | .chain o o' a b d, c, X, W, k, e', C, G, h => by
    unfold chkT at h
    split at h
    all_goals first
      | (rename_i h1; cases h1; done)
      | (cases h; done)
      | skip
    rename_i heq
    cases heq
    simp only [Bool.and_eq_true, Bool.not_eq_true'] at h
    obtain ⟨⟨⟨⟨⟨h1, h2⟩, h3⟩, h4⟩, h5⟩, h6⟩ := h
    have := of_decide_eq_true h1
    subst this
    have := of_decide_eq_true h2
    subst this
    exact .of (c_chainT G (chkE_ok a C G h3) (chkE_ok b C G h4) (chkE_ok d C G h5) h6) (fun _ _ _ z => nomatch z)
  | .val e, c, X, W, k, e', C, G, h => by
    unfold chkT at h
    rw [Bool.and_eq_true] at h
    refine .of (t_val G (chkE_ok e C G h.1) (plainT_ok h.2 _)) (fun _ _ _ z => ?_)
    have h2 := h.2
    rw [z] at h2
    cases h2
  | .cmp o a b, c, X, W, k, e', C, G, h => by
    unfold chkT at h
    split at h
    all_goals first
      | (rename_i h1; cases h1; done)
      | (cases h; done)
      | skip
    rename_i heq
    cases heq
    rw [Bool.and_eq_true, Bool.and_eq_true, Bool.and_eq_true, Bool.not_eq_true'] at h
    have := of_decide_eq_true h.1.1.1
    subst this
    exact .of (pt_imp (t_cmp G (chkE_ok a C G h.1.1.2) (chkE_ok b C G h.1.2) h.2) fun _ _ _ q => q) (fun _ _ _ z => nomatch z)
  | .isN a, c, X, W, k, e', C, G, h => by
    unfold chkT at h
    split at h
    all_goals first
      | (rename_i h1; cases h1; done)
      | (cases h; done)
      | skip
    rename_i heq
    cases heq
    exact .of (pt_imp (t_isN (chkE_ok a C G h)) fun _ _ _ q => q) (fun _ _ _ z => nomatch z)
  | .notN a, c, X, W, k, e', C, G, h => by
    unfold chkT at h
    split at h
    all_goals first
      | (rename_i h1; cases h1; done)
      | (cases h; done)
      | skip
    rename_i heq
    cases heq
    exact .of (pt_imp (t_notN (chkE_ok a C G h)) fun _ _ _ q => q) (fun _ _ _ z => nomatch z)
  | .p1 (.isB b) a, c, X, W, k, e', C, G, h => by
    unfold chkT at h
    split at h
    all_goals first
      | (rename_i h1; cases h1; done)
      | (cases h; done)
      | skip
    rename_i heq
    cases heq
    rw [Bool.and_eq_true] at h
    have := of_decide_eq_true h.1
    subst this
    exact .of (pt_imp (t_isB (chkE_ok a C G h.2)) fun _ _ _ q => q) (fun _ _ _ z => nomatch z)
  | .p1 (.notB b) a, c, X, W, k, e', C, G, h => by
    unfold chkT at h
    split at h
    all_goals first
      | (rename_i h1; cases h1; done)
      | (cases h; done)
      | skip
    rename_i heq
    cases heq
    rw [Bool.and_eq_true] at h
    have := of_decide_eq_true h.1
    subst this
    exact .of (pt_imp (t_notB (chkE_ok a C G h.2)) fun _ _ _ q => q) (fun _ _ _ z => nomatch z)
  | .p1 .listRange a, c, X, W, k, e', C, G, h => by
    unfold chkT at h
    cases h
  | .p1 .lenSet a, c, X, W, k, e', C, G, h => by
    unfold chkT at h
    cases h
theorem chkO_ok : ∀ (o : O) {c : Fc} {X : Cx} {W : WX} {k : Ck} {e' : Option Expr}, CkOk c Φ g k X → Good X W c Φ g → chkO g k o e' = true → PO X e' (tO Φ c W o)
  | .miss, c, X, W, k, e', C, G, h => by
    unfold chkO at h
    split at h
    all_goals first
      | (rename_i h1; cases h1; done)
      | (cases h; done)
      | skip
    exact o_miss
  | .val e, c, X, W, k, e', C, G, h => by
    unfold chkO at h
    split at h
    all_goals first
      | (rename_i h1; cases h1; done)
      | (cases h; done)
      | skip
    rename_i heq
    cases heq
    exact o_val (chkE_ok e C G h)
end
end
end Dv

set_option Elab.async false
set_option linter.all false
set_option maxRecDepth 100000
set_option maxHeartbeats 4000000
/-! Dv15: what the Bool says of statements; a def. -/
namespace Dv
open PySem PySem.Spec PyProof.Rows L2
/-- a local name on line l0 -/
def pick (sc : Scope) (l0 : Nat) : Expr → Option Str
  | .Name id pos => if sc.names.lookup id == some .local && pos.line == l0 then some id else none
  | _ => none
/-- which names a tuple display is stored to without a tuple -/
def swQ (sc : Scope) (ts vs : List Expr) : Option (Option (List Str)) :=
  if !(ts.length == 2 || ts.length == 3) || vs.length != ts.length then some none
  else if vs.any fun | .Starred .. => true | _ => false then some none
  else
    let line := (ts.head?.map (·.pos.line)).getD 0
    let names := ts.filterMap (pick sc line)
    if names.length != ts.length || names.eraseDups.length != names.length then some none
    else if vs.all (foldedForSure 8) then some none
    else if vs.all (constantsAlone 8) then none
    else some (some names)
def swP (sc : Scope) (ts : List Expr) : Expr → Option (Option (List Str))
  | .Tuple vs _ _ => swQ sc ts vs
  | _ => some none
theorem blockKind_fn {env : PySem.Env} (h : env.scope.kind = .function) : env.blockKind = .function := by
  unfold Env.blockKind
  rw [h]
  rfl
theorem swQ_ok {env : PySem.Env} {ts vs : List Expr} {kt k2 : Nat} {pt p2 : Pos} {r : Option (List Str)} (hk : env.scope.kind = .function) (h : swQ env.scope ts vs = some r) : swappedStores [.Tuple ts kt pt] (.Tuple vs k2 p2) env = pure r := by
  have hb := blockKind_fn hk
  unfold swQ at h
  unfold swappedStores
  simp only [hb, Env.kindOf]
  by_cases c1 : (!(ts.length == 2 || ts.length == 3) || vs.length != ts.length) = true
  · rw [if_pos c1] at h
    cases h
    have c1' : (!(ts.length == 2 || ts.length == 3) || vs.length != ts.length || (ScopeKind.function != ScopeKind.function)) = true := by rw [c1]; rfl
    rw [if_pos c1']
  · rw [if_neg c1] at h
    have c1' : ¬ (!(ts.length == 2 || ts.length == 3) || vs.length != ts.length || (ScopeKind.function != ScopeKind.function)) = true := by
      rw [Bool.not_eq_true] at c1 ⊢
      rw [c1]
      rfl
    rw [if_neg c1']
    split at h
    · rename_i c2
      cases h
      exact (if_pos c2).trans rfl
    · rename_i c2
      refine (if_neg c2).trans ?_
      dsimp only at h
      split at h
      · rename_i c3
        cases h
        exact (if_pos c3).trans rfl
      · rename_i c3
        refine (if_neg c3).trans ?_
        split at h
        · rename_i c4
          cases h
          exact (if_pos c4).trans rfl
        · rename_i c4
          refine (if_neg c4).trans ?_
          split at h
          · cases h
          · rename_i c5
            refine (if_neg c5).trans ?_
            cases h
            rfl
theorem swP_ok {env : PySem.Env} {ts : List Expr} {value : Expr} {kt : Nat} {pt : Pos} {r : Option (List Str)} (hk : env.scope.kind = .function) (h : swP env.scope ts value = some r) : swappedStores [.Tuple ts kt pt] value env = pure r := by
  cases value with
  | Tuple vs k2 p2 => exact swQ_ok hk h
  | _ =>
    cases h
    rfl
/-- whether a display in a store goes into its name's place -/
def swC (k : Ck) (n : Str) (p : Pos) : Expr → Option Bool
  | .ListComp _ _ scope pos => some (isLoc k n && p.line == pos.line && !(scope.names.any fun (m, kk) => m == n && (kk == .local || kk == .cell)))
  | .SetComp .. => none
  | .DictComp .. => none
  | _ => some false
theorem swC_ok {c : Fc} {Φ : Orc} {g : Sig} {k : Ck} {X : Cx} (C : CkOk c Φ g k X) {n : Str} {p : Pos} {e : Expr} {b : Bool} {l : Nat} (h : swC k n p e = some b) : swapsWith e (some (.Name n p)) l X.env = pure b := by
  have hb := blockKind_fn (env := X.env) (by rw [C.sc]; exact C.kind)
  cases e with
  | ListComp elt gs scope pos =>
    cases h
    unfold swapsWith
    simp only [hb, Env.kindOf, C.sc, Expr.pos, isLoc]
    have e1 : (k.sc.names.lookup n == some NameKind.local) = decide (k.sc.names.lookup n = some NameKind.local) := by
      by_cases q : k.sc.names.lookup n = some NameKind.local
      · rw [q]
        rfl
      · rw [decide_eq_false q]
        exact beq_eq_false_iff_ne.mpr q
    rw [e1]
    rfl
  | SetComp _ _ _ _ => cases h
  | DictComp _ _ _ _ _ => cases h
  | _ =>
    cases h
    rfl
def nameIx (k : Ck) : List Nat → List Expr → Bool
  | [], [] => true
  | i :: is, .Name n _ :: es => atB k i n && locB k n && (k.fn n || isLoc k n) && nameIx k is es
  | _, _ => false
def isTup : Expr → Bool
  | .Tuple .. => true
  | _ => false
def isComp : E → Bool
  | .comp .. => true
  | _ => false
section
variable (g : Sig)
mutual
def chkS (k : Ck) : S → Stmt → Bool
  | .set i e, .Assign [.Name n p] e' _ => atB k i n && locB k n && (k.fn n || isLoc k n) && chkE g k e e' && (match swC k n p e' with
    | some false => true
    | some true => isComp e && isLoc k n
    | none => false)
  | .par is es, .Assign [.Tuple ts kt pt] (.Tuple as k2 p2) _ => nameIx k is ts && decide is.Nodup && decide (is.length ≤ 100) && chkA g k es as && (match swQ k.sc ts as with
    | some none => true
    | some (some _) => decide (as.length = is.length) && ts.all (fun | .Name n _ => isLoc k n | _ => false) && (is.length == 2 || is.length == 3)
    | none => false)
  | .unp tg e, .Assign [.Tuple ts kt pt] e' _ => chkTg k tg (.Tuple ts kt pt) && chkE g k e e' && (match swP k.sc ts e' with
    | some none => true
    | _ => false)
  | .aug i o e, .AugAssign (.Name n _) o' e' _ => atB k i n && locB k n && (k.fn n || isLoc k n) && chkE g k e e' && decide (opOf o = o') && (decide (o = .add) || decide (o = .sub))
  | .setIx i ix e, .Assign [.Subscript (.Name n _) ix' _] e' _ => atB k i n && visB k n && nmB n && chkE g k ix ix' && chkE g k e e' && plainIx ix'
  | .tset i f e, .Assign [.Subscript (.Name n _) (.Constant (.str s) _ _) _] e' _ => decide (fName f = s) && atB k i n && visB k n && nmB n && chkE g k e e'
  | .append i e, .Expr (.Call (.Attribute (.Name n _) m apos) [e'] [] cpos) _ => decide (m = "append") && atB k i n && visB k n && nmB n && (apos.endLine == cpos.line) && chkE g k e e' && notStar e'
  | .extend i e, .Expr (.Call (.Attribute (.Name n _) m apos) [e'] [] cpos) _ => decide (m = "extend") && atB k i n && visB k n && nmB n && (apos.endLine == cpos.line) && chkE g k e e' && notStar e'
  | .expr e, .Expr e' _ => chkE g k e e' && notComp e'
  | .ret e, .Return (some e') _ => chkE g k e e'
  | .retN, .Return none _ => true
  | .raise x, .Raise (some (.Call (.Name n _) [.Constant (.str _) _ _] [] _)) none _ => decide (x = n) && decide (n ∈ g.exc) && glB k n && nmB n
  | .tryRet e x, .Try [.Return (some e') _] [.ExceptHandler (some (.Name n _)) none [.Return (some (.Constant .none _ _)) _] _] [] [] _ => decide (x = n) && decide (n ∈ g.exc) && glB k n && nmB n && chkE g k e e'
  | .ifS t a b, .If t' a' b' _ => chkT g k t t' && chkSs k a a' && chkSs k b b'
  | .forS tg ik its body, .For tg' iter' body' [] _ => (match iterArgs k ik tg' iter' with
      | some as => chkA g k its as
      | none => false) && chkTg k tg tg' && chkSs k body body' && notSet iter'
  | .whileS _ t body, .While t' body' [] _ => chkT g k t t' && chkSs k body body'
  | .brk, .Break _ => true
  | .cnt, .Continue _ => true
  | .pass, .Pass _ => true
  | _, _ => false
def chkSs (k : Ck) : Ss → List Stmt → Bool
  | .nil, [] => true
  | .cons s r, s' :: r' => chkS k s s' && chkSs k r r'
  | _, _ => false
end
end
section
variable {c : Fc} {Φ : Orc} {g : Sig}
theorem chkP_ok : ∀ (xs : Es) {X : Cx} {W : WX} {k : Ck} {es : List Expr}, CkOk c Φ g k X → Good X W c Φ g → chkA g k xs es = true → PA X es (tP Φ c W xs)
  | .nil, X, W, k, es, C, G, h => by
    cases es with
    | nil => exact p_nil
    | cons _ _ =>
      unfold chkA at h
      cases h
  | .cons x xs, X, W, k, es, C, G, h => by
    cases es with
    | nil =>
      unfold chkA at h
      cases h
    | cons e es =>
      unfold chkA at h
      rw [Bool.and_eq_true, Bool.and_eq_true] at h
      exact p_cons (chkE_ok x C G h.1.1) (chkP_ok xs C G h.2) (star_plain h.1.2 _ _)
theorem nameIx_ok {X : Cx} {W : WX} {k : Ck} (C : CkOk c Φ g k X) (G : Good X W c Φ g) : ∀ {is : List Nat} {ts : List Expr}, nameIx k is ts = true → PGs X ts (gNames is) ∧ (assignEach ts X.env).length = is.length ∧ (assignEach ts X.env).findIdx? (·.1) = none ∧ ts.length = is.length
  | [], ts, h => by
    cases ts with
    | nil => exact ⟨pgs_nil, rfl, rfl, rfl⟩
    | cons _ _ => cases h
  | i :: is, ts, h => by
    cases ts with
    | nil => cases h
    | cons e es =>
      cases e <;> first | (cases h; done) | skip
      unfold nameIx at h
      simp only [Bool.and_eq_true] at h
      obtain ⟨⟨⟨h1, h2⟩, h3⟩, h4⟩ := h
      obtain ⟨a1, a2, a3, a4⟩ := nameIx_ok C G h4
      exact ⟨pgs_cons (pg_name G.nd (atB_ok C h1) (locB_ok C h2) (fnB_ok C h3)) a1 rfl, congrArg (· + 1) a2, (by
        show List.findIdx? _ (_ :: _) = none
        rw [List.findIdx?_cons]
        simp [a3]), congrArg (· + 1) a4⟩
/-- the parts of a comprehension's check -/
theorem comp_parts {X : Cx} {W : WX} {k : Ck} (C : CkOk c Φ g k X) (G : Good X W c Φ g) {elt : E} {tg : Tg} {ik : IK} {its : Es} {cond : T} {own : List (Str × Nat)} {e' : Expr} (h : chkE g k (.comp elt tg ik its cond own) e' = true) :
    ∃ elt' tg' iter' ifs' scope pos, e' = .ListComp elt' [⟨tg', iter', ifs', 0⟩] scope pos ∧ PI X tg' iter' (tI Φ c W ik its) ∧ BlkOk X.N X.env.scope scope own ∧
      (∀ (s : Shared) (H : Hp) (C : Addr) (cl : List (Str × Addr)) (fp : List Addr), PG (X.blk s H scope (compEnvC scope cl C X.env) fp) tg' (tG c tg)) ∧ (∀ (s : Shared) (H : Hp) (C : Addr) (cl : List (Str × Addr)) (fp : List Addr), PTs (X.blk s H scope (compEnvC scope cl C X.env) fp) ifs' (tT Φ c W0 cond)) ∧
      (∀ (s : Shared) (H : Hp) (C : Addr) (cl : List (Str × Addr)) (fp : List Addr), PE (X.blk s H scope (compEnvC scope cl C X.env) fp) elt' (tE Φ c W0 elt)) ∧ (∀ i ∈ tgIx tg, i ∈ own.map (·.2)) ∧ (∀ x, foldedSetIterable iter' X.env x = pure x) := by
  unfold chkE at h
  split at h
  all_goals first
    | (rename_i h1; cases h1; done)
    | (cases h; done)
    | skip
  rename_i heq
  cases heq
  simp only [Bool.and_eq_true] at h
  obtain ⟨⟨⟨⟨⟨⟨h1, h2⟩, h3⟩, h4⟩, h5⟩, h6⟩, h7⟩ := h
  have ok := blkOk_by h2
  rw [← C.N, ← C.sc] at ok
  refine ⟨_, _, _, _, _, _, rfl, ?_, ok, (fun s H Cc cl fp => chkTg_ok (C.blk h2 s H Cc cl fp) (G.blk s H _ _ fp) h3), (fun s H Cc cl fp => ?_), (fun s H Cc cl fp => chkE_ok elt (C.blk h2 s H Cc cl fp) (G.blk s H _ _ fp) h5), (fun i hi => ?_), (notSet_ok h7 _)⟩
  · split at h1
    · rename_i as has
      exact iter_ok C G has h1 (chkA_ok its C G h1) (chk1_ok its C G h1)
    · cases h1
  · split at h4
    · split at h4
      · exact ⟨fun pins s σ H Q I ⟨env, pend, τ, Hs, st, q⟩ => pts_nil.run pins s σ H Q I (q true H Hs (Sub.refl _) ⟨rfl, st⟩)⟩
      · cases h4
    · exact pts_one (chkT_ok cond (C.blk h2 s H Cc cl fp) (G.blk s H _ _ fp) h4).1
    · cases h4
  · rw [List.all_eq_true] at h6
    exact of_decide_eq_true (h6 i hi)
theorem tup_swap {t e : Expr} (h : isTup t = true) (l : Nat) (env : PySem.Env) : swapsWithSole [t] e l env = pure false := by
  cases t <;> first | (cases h; done) | skip
  cases e <;> rfl
theorem sub_swap {o i e : Expr} {p : Pos} (l : Nat) (env : PySem.Env) : swapsWithSole [.Subscript o i p] e l env = pure false := by
  cases e <;> rfl
theorem tup_assign {t : Expr} (h : isTup t = true) (env : PySem.Env) : (assignEach [t] env).map (·.2) = [assign t env] := by
  cases t <;> first | (cases h; done) | rfl
end
end Dv

set_option Elab.async false
set_option linter.all false
set_option maxRecDepth 100000
set_option maxHeartbeats 4000000
/-! Dv16: names stored to at once. -/
namespace Dv
open PySem PySem.Spec PyProof.Rows L2
section
variable {c : Fc} {Φ : Orc} {g : Sig}
theorem swQ_names {sc : Scope} {ts as : List Expr} {r : List Str} (h : swQ sc ts as = some (some r)) : ts.filterMap (pick sc ((ts.head?.map (·.pos.line)).getD 0)) = r ∧ r.length = ts.length := by
  unfold swQ at h
  dsimp only at h
  split at h
  · cases h
  · split at h
    · cases h
    · split at h
      · cases h
      · rename_i c3
        split at h
        · cases h
        · split at h
          · cases h
          · cases h
            refine ⟨rfl, ?_⟩
            rw [Bool.not_eq_true, Bool.or_eq_false_iff] at c3
            simpa using c3.1
/-- the name of a Name -/
def nm? : Expr → Str
  | .Name n _ => n
  | _ => ""
theorem pick_nm {sc : Scope} {l0 : Nat} {e : Expr} {b : Str} (h : pick sc l0 e = some b) : b = nm? e := by
  cases e with
  | Name id pos =>
    by_cases q : (sc.names.lookup id == some .local && pos.line == l0) = true
    · have e : pick sc l0 (.Name id pos) = some id := if_pos q
      rw [e] at h
      exact (Option.some.inj h).symm
    · have e : pick sc l0 (.Name id pos) = none := if_neg q
      rw [e] at h
      cases h
  | _ => cases h
theorem filterMap_names {sc : Scope} {l0 : Nat} : ∀ {ts : List Expr}, (ts.filterMap (pick sc l0)).length = ts.length → ts.filterMap (pick sc l0) = ts.map nm?
  | [], _ => rfl
  | a :: ts, hl => by
    cases q : pick sc l0 a with
    | none =>
      rw [List.filterMap_cons, q] at hl
      have := List.length_filterMap_le (pick sc l0) ts
      simp only [List.length_cons] at hl
      omega
    | some b =>
      rw [List.filterMap_cons, q] at hl ⊢
      simp only [List.length_cons, Nat.add_right_cancel_iff] at hl
      dsimp only
      rw [filterMap_names hl, pick_nm q]
      rfl
theorem swQ_is {sc : Scope} {ts as : List Expr} {r : List Str} (h : swQ sc ts as = some (some r)) : r = ts.map nm? := by
  obtain ⟨h1, h2⟩ := swQ_names h
  rw [← h1] at h2 ⊢
  exact filterMap_names h2
end
end Dv

set_option Elab.async false
set_option linter.all false
set_option maxRecDepth 100000
set_option maxHeartbeats 4000000
/-! Dv17: what the Bool says of statements. -/
namespace Dv
open PySem PySem.Spec PyProof.Rows L2
section
variable {c : Fc} {Φ : Orc} {g : Sig}
mutual
theorem chkS_ok : ∀ (s : S) {X : Cx} {W : WX} {k : Ck} {s' : Stmt}, CkOk c Φ g k X → GoodS X W c Φ g → chkS g k s s' = true → PS X s' (tS Φ c W s)
  | .set i e, X, W, k, s', C, G, h => by
    unfold chkS at h
    split at h
    all_goals first
      | (rename_i h1; cases h1; done)
      | (cases h; done)
      | skip
    rename_i heq
    cases heq
    simp only [Bool.and_eq_true] at h
    obtain ⟨⟨⟨⟨h1, h2⟩, h3⟩, h4⟩, h5⟩ := h
    split at h5
    · rename_i hsw
      exact s_set G (atB_ok C h1) (locB_ok C h2) (chkE_ok e C G.good h4) (swC_ok C hsw) (fnB_ok C h3)
    · rename_i hsw
      rw [Bool.and_eq_true] at h5
      cases e with
      | comp elt tg ik its cond own =>
        obtain ⟨elt', tg', iter', ifs', scope, pos, rfl, a1, a2, a3, a4, a5, a6, a7⟩ := comp_parts C G.good h4
        exact s_setC G (atB_ok C h1) (isLoc_ok C h5.2) (swC_ok C hsw) a1 a2 a3 a4 a5 a6 a7
      | _ => cases h5.1
    · cases h5
  | .par is es, X, W, k, s', C, G, h => by
    unfold chkS at h
    split at h
    all_goals first
      | (rename_i h1; cases h1; done)
      | (cases h; done)
      | skip
    rename_i heq
    cases heq
    rename_i ts kt pt as k2 p2 pos
    simp only [Bool.and_eq_true] at h
    obtain ⟨⟨⟨⟨h1, h2⟩, h3⟩, h4⟩, h5⟩ := h
    have h2 := of_decide_eq_true h2
    have h3 := of_decide_eq_true h3
    obtain ⟨a1, a2, a3, a4⟩ := nameIx_ok C G.good h1
    have hkind : X.env.scope.kind = .function := by rw [C.sc]; exact C.kind
    split at h5
    · rename_i hsw
      exact s_parU G h2 h3 (chkP_ok es C G.good h4) a1 a2 a3 (tup_swap rfl _ _) (swQ_ok hkind (by rw [C.sc]; exact hsw)) rfl
    · rename_i r hsw
      have hw := fun kt pt k2 p2 => swQ_ok (kt := kt) (pt := pt) (k2 := k2) (p2 := p2) hkind (by rw [C.sc]; exact hsw)
      have f3 := swQ_is hsw
      simp only [Bool.and_eq_true, Bool.or_eq_true, beq_iff_eq] at h5
      obtain ⟨⟨b1, b2⟩, b3⟩ := h5
      have b1 := of_decide_eq_true b1
      rcases b3 with b3 | b3
      · match is, b3, ts, a4, h1, b2, f3, as, b1, h4, h2, hw with
        | [i, j], _, [t1, t2], _, h1, b2, f3, [x1, x2], _, h4, h2, hw =>
          cases t1 <;> first | (cases h1; done) | skip
          rename_i n1 p1
          unfold nameIx at h1
          simp only [Bool.and_eq_true] at h1
          cases t2 <;> first | (cases h1.2; done) | skip
          rename_i n2 p2
          have h12 := h1.2
          unfold nameIx at h12
          simp only [Bool.and_eq_true] at h12
          subst f3
          simp only [List.all_cons, List.all_nil, Bool.and_eq_true] at b2
          refine s_par2 G (atB_ok C h1.1.1.1) (atB_ok C h12.1.1.1) (by simpa using h2) (isLoc_ok C b2.1) (isLoc_ok C b2.2.1) (chkP_ok es C G.good h4) (hw _ _ _ _) (tup_swap rfl _ _)
      · match is, b3, ts, a4, h1, b2, f3, as, b1, h4, h2, hw with
        | [i, j, l], _, [t1, t2, t3], _, h1, b2, f3, [x1, x2, x3], _, h4, h2, hw =>
          cases t1 <;> first | (cases h1; done) | skip
          unfold nameIx at h1
          simp only [Bool.and_eq_true] at h1
          cases t2 <;> first | (cases h1.2; done) | skip
          have h12 := h1.2
          unfold nameIx at h12
          simp only [Bool.and_eq_true] at h12
          cases t3 <;> first | (cases h12.2; done) | skip
          have h13 := h12.2
          unfold nameIx at h13
          simp only [Bool.and_eq_true] at h13
          subst f3
          simp only [List.all_cons, List.all_nil, Bool.and_eq_true] at b2
          simp only [List.nodup_cons, List.mem_cons, List.not_mem_nil, or_false, not_or] at h2
          refine s_par3 G (atB_ok C h1.1.1.1) (atB_ok C h12.1.1.1) (atB_ok C h13.1.1.1) h2.1.1 h2.1.2 h2.2.1 (isLoc_ok C b2.1) (isLoc_ok C b2.2.1) (isLoc_ok C b2.2.2.1) (chkP_ok es C G.good h4) (hw _ _ _ _) (tup_swap rfl _ _)
    · cases h5
  | .unp tg e, X, W, k, s', C, G, h => by
    unfold chkS at h
    split at h
    all_goals first
      | (rename_i h1; cases h1; done)
      | (cases h; done)
      | skip
    rename_i heq
    cases heq
    simp only [Bool.and_eq_true] at h
    obtain ⟨⟨h2, h3⟩, h4⟩ := h
    have hkind : X.env.scope.kind = .function := by rw [C.sc]; exact C.kind
    split at h4
    · rename_i hsw
      exact s_unp G (chkE_ok e C G.good h3) (chkTg_ok C G.good h2) (tup_swap rfl _ _) (swP_ok hkind (by rw [C.sc]; exact hsw)) (tup_assign rfl _)
    · cases h4
  | .aug i o e, X, W, k, s', C, G, h => by
    unfold chkS at h
    split at h
    all_goals first
      | (rename_i h1; cases h1; done)
      | (cases h; done)
      | skip
    rename_i heq
    cases heq
    simp only [Bool.and_eq_true] at h
    obtain ⟨⟨⟨⟨⟨h1, h2⟩, h3⟩, h4⟩, h5⟩, h6⟩ := h
    rw [Bool.or_eq_true] at h6
    have := of_decide_eq_true h5
    subst this
    exact s_aug G (atB_ok C h1) (locB_ok C h2) (chkE_ok e C G.good h4) (h6.imp of_decide_eq_true of_decide_eq_true) (fnB_ok C h3)
  | .setIx i ix e, X, W, k, s', C, G, h => by
    unfold chkS at h
    split at h
    all_goals first
      | (rename_i h1; cases h1; done)
      | (cases h; done)
      | skip
    rename_i heq
    cases heq
    simp only [Bool.and_eq_true] at h
    obtain ⟨⟨⟨⟨⟨h1, h2⟩, h3⟩, h4⟩, h5⟩, h6⟩ := h
    rename_i ix' _ e' _
    refine s_setIx G (atB_ok C h1) (visB_ok C h2) (nmB_ok h3).1 (nmB_ok h3).2 (chkE_ok ix C G.good h4) (chkE_ok e C G.good h5) (fun v => ?_) (sub_swap _ _) ?_ rfl
    · cases ix' <;> first | rfl | cases h6
    · cases e' <;> rfl
  | .tset i f e, X, W, k, s', C, G, h => by
    unfold chkS at h
    split at h
    all_goals first
      | (rename_i h1; cases h1; done)
      | (cases h; done)
      | skip
    rename_i heq
    cases heq
    simp only [Bool.and_eq_true] at h
    obtain ⟨⟨⟨⟨h1, h2⟩, h3⟩, h4⟩, h5⟩ := h
    have := of_decide_eq_true h1
    subst this
    rename_i e' _
    refine s_tset G (atB_ok C h2) (visB_ok C h3) (nmB_ok h4).1 (nmB_ok h4).2 (chkE_ok e C G.good h5) ?_
    cases e' <;> rfl
  | .append i e, X, W, k, s', C, G, h => by
    unfold chkS at h
    split at h
    all_goals first
      | (rename_i h1; cases h1; done)
      | (cases h; done)
      | skip
    rename_i heq
    cases heq
    simp only [Bool.and_eq_true] at h
    obtain ⟨⟨⟨⟨⟨⟨h1, h2⟩, h3⟩, h4⟩, h5⟩, h6⟩, h7⟩ := h
    have := of_decide_eq_true h1
    subst this
    exact s_append G (atB_ok C h2) (visB_ok C h3) (nmB_ok h4).1 (nmB_ok h4).2 h5 (chkE_ok e C G.good h6) (by rw [star_plain h7]; rfl) (star_plain h7 _ _) rfl
  | .extend i e, X, W, k, s', C, G, h => by
    unfold chkS at h
    split at h
    all_goals first
      | (rename_i h1; cases h1; done)
      | (cases h; done)
      | skip
    rename_i heq
    cases heq
    simp only [Bool.and_eq_true] at h
    obtain ⟨⟨⟨⟨⟨⟨h1, h2⟩, h3⟩, h4⟩, h5⟩, h6⟩, h7⟩ := h
    have := of_decide_eq_true h1
    subst this
    exact s_extend G (atB_ok C h2) (visB_ok C h3) (nmB_ok h4).1 (nmB_ok h4).2 h5 (chkE_ok e C G.good h6) (by rw [star_plain h7]; rfl) (star_plain h7 _ _) rfl
  | .expr e, X, W, k, s', C, G, h => by
    unfold chkS at h
    split at h
    all_goals first
      | (rename_i h1; cases h1; done)
      | (cases h; done)
      | skip
    rename_i heq
    cases heq
    rw [Bool.and_eq_true] at h
    exact s_expr G (chkE_ok e C G.good h.1) (notComp_ok h.2 _ _ _)
  | .ret e, X, W, k, s', C, G, h => by
    unfold chkS at h
    split at h
    all_goals first
      | (rename_i h1; cases h1; done)
      | (cases h; done)
      | skip
    rename_i heq
    cases heq
    exact s_ret G (chkE_ok e C G.good h)
  | .retN, X, W, k, s', C, G, h => by
    unfold chkS at h
    split at h
    all_goals first
      | (rename_i h1; cases h1; done)
      | (cases h; done)
      | skip
    exact s_retN
  | .raise x, X, W, k, s', C, G, h => by
    unfold chkS at h
    split at h
    all_goals first
      | (rename_i h1; cases h1; done)
      | (cases h; done)
      | skip
    rename_i heq
    cases heq
    simp only [Bool.and_eq_true] at h
    obtain ⟨⟨⟨h1, h2⟩, h3⟩, h4⟩ := h
    have := of_decide_eq_true h1
    subst this
    exact s_raise G (of_decide_eq_true h2) (glB_ok C h3) (nmB_ok h4).1
  | .tryRet e x, X, W, k, s', C, G, h => by
    unfold chkS at h
    split at h
    all_goals first
      | (rename_i h1; cases h1; done)
      | (cases h; done)
      | skip
    rename_i heq
    cases heq
    simp only [Bool.and_eq_true] at h
    obtain ⟨⟨⟨⟨h1, h2⟩, h3⟩, h4⟩, h5⟩ := h
    have := of_decide_eq_true h1
    subst this
    exact s_tryRet G (of_decide_eq_true h2) (glB_ok C h3) (nmB_ok h4).1 fun W' pn xe H0 Hs0 tk => chkE_ok e (X := X.tr pn xe) ⟨C.N, C.sc, C.fn, C.kind, fun q hq => ⟨(C.ref q hq).ex⟩⟩ (G.good.tr H0 Hs0 tk) h5
  | .ifS t a b, X, W, k, s', C, G, h => by
    unfold chkS at h
    split at h
    all_goals first
      | (rename_i h1; cases h1; done)
      | (cases h; done)
      | skip
    rename_i heq
    cases heq
    rw [Bool.and_eq_true, Bool.and_eq_true] at h
    exact s_if (chkT_ok t C G.good h.1.1).1 (chkSs_ok a C G h.1.2) (chkSs_ok b C G h.2)
  | .forS tg ik its body, X, W, k, s', C, G, h => by
    unfold chkS at h
    split at h
    all_goals first
      | (rename_i h1; cases h1; done)
      | (cases h; done)
      | skip
    rename_i heq
    cases heq
    simp only [Bool.and_eq_true] at h
    obtain ⟨⟨⟨h1, h2⟩, h3⟩, h4⟩ := h
    refine s_for G ?_ (chkTg_ok C G.good h2) (chkSs_ok body C G h3) (notSet_ok h4 _)
    split at h1
    · rename_i as has
      exact iter_ok C G.good has h1 (chkA_ok its C G.good h1) (chk1_ok its C G.good h1)
    · cases h1
  | .whileS fuel t body, X, W, k, s', C, G, h => by
    unfold chkS at h
    split at h
    all_goals first
      | (rename_i h1; cases h1; done)
      | (cases h; done)
      | skip
    rename_i heq
    cases heq
    rw [Bool.and_eq_true] at h
    exact s_while G (chkT_ok t C G.good h.1).1 (chkSs_ok body C G h.2)
  | .brk, X, W, k, s', C, G, h => by
    unfold chkS at h
    split at h
    all_goals first
      | (rename_i h1; cases h1; done)
      | (cases h; done)
      | skip
    exact s_brk
  | .cnt, X, W, k, s', C, G, h => by
    unfold chkS at h
    split at h
    all_goals first
      | (rename_i h1; cases h1; done)
      | (cases h; done)
      | skip
    exact s_cnt
  | .pass, X, W, k, s', C, G, h => by
    unfold chkS at h
    split at h
    all_goals first
      | (rename_i h1; cases h1; done)
      | (cases h; done)
      | skip
    exact s_pass
theorem chkSs_ok : ∀ (s : Ss) {X : Cx} {W : WX} {k : Ck} {s' : List Stmt}, CkOk c Φ g k X → GoodS X W c Φ g → chkSs g k s s' = true → PSs X s' (tSs Φ c W s)
  | .nil, X, W, k, s', C, G, h => by
    cases s' with
    | nil => exact ss_nil
    | cons _ _ =>
      unfold chkSs at h
      cases h
  | .cons s r, X, W, k, s', C, G, h => by
    cases s' with
    | nil =>
      unfold chkSs at h
      cases h
    | cons t u =>
      unfold chkSs at h
      rw [Bool.and_eq_true] at h
      exact ss_cons (chkS_ok s C G h.1) (chkSs_ok r C G h.2)
end
end
end Dv

set_option Elab.async false
set_option linter.all false
set_option maxRecDepth 100000
set_option maxHeartbeats 4000000
/-! Dv18: a def keeps its promise. -/
namespace Dv
open PySem PySem.Spec PyProof.Rows L2
/-- what the top has made -/
structure Tops (P : Program) (w : World) (K : PySem.W.Frag) (mg : Str → Option Value) (base : Heap) (TL : List (Addr × Str)) (Φ : Orc) (g : Sig) (kk : Nat) : Prop where
  fns : ∀ p ∈ g.fns, ∃ (a : Addr) (fd : FuncData) (ps : List Str), mg p.1 = some (.ref a) ∧ PySem.W.keepIn K (.ref a) = true ∧ Binds K fd ps [] ∧ FnOk P w K mg base (L2.CX P w) kk a fd ps (spD K mg TL p.2 (Φ p.1))
  cst : ∀ p ∈ g.cst, ∃ (u : Value) (v : V), mg p.1 = some u ∧ RelV v u ∧ ∀ H : Hp, Rp K H v p.2
  blt : ∀ x ∈ bltNames, mg x = none
  exc : ∀ x ∈ g.exc, ∃ (C : Addr) (bmB : List Value) (B newId initId : String), ExcBaseFacts B newId initId bmB ∧ PySem.W.excIn K C bmB newId = true ∧ mg x = some (.ref C) ∧ PySem.W.keepIn K (.ref C) = true ∧
    PySem.W.subIn K (.ref C) (.type "BaseException") = some true ∧ PySem.W.typeIn K (.ref C) = some (.type "type") ∧ PySem.W.exmOne K (.ref C) (.ref C) = some true
theorem start_slot {c : Fc} {Hs : Hp} {m : Nat} : ∀ {vs : List V} {xs : List Va}, VasOk c Hs vs xs → ∀ (i : Nat) (z : Sl), (xs.map (fun v => some (Sl.sh v)) ++ List.replicate m none)[i]? = some (some z) → ∃ x u, z = .sh x ∧ (vs.map some ++ List.replicate m none)[i]? = some (some u) ∧ VaOk c Hs u x
  | [], [], _, i, z, h => by
    simp only [List.map_nil, List.nil_append] at h
    have := List.mem_of_getElem? h
    rw [List.mem_replicate] at this
    cases this.2
  | v :: vs, x :: xs, k, 0, z, h => by
    simp at h
    subst h
    exact ⟨x, v, rfl, by simp, k.1⟩
  | v :: vs, x :: xs, k, i + 1, z, h => by
    simp only [List.map_cons, List.cons_append, List.getElem?_cons_succ] at h ⊢
    exact start_slot k.2 i z h
  | [], _ :: _, k, _, _, _ => k.elim
  | _ :: _, [], k, _, _, _ => k.elim
theorem start_stt {c : Fc} {τ : Tp} {H Hs : Hp} {m : Nat} {vs : List V} {xs : List Va} (C : Core c τ H Hs) (k : VasOk c Hs vs xs) : Stt c (xs.map (fun v => some (Sl.sh v)) ++ List.replicate m none) [] τ (vs.map some ++ List.replicate m none) H Hs := by
  refine ⟨C, by simp [k.len], fun i z h => ?_, fun i j xs ys a h _ _ _ => ?_, (fun p hp => nomatch hp), (fun p hp => nomatch hp), List.nodup_nil⟩
  · obtain ⟨x, u, rfl, h1, h2⟩ := start_slot k i z h
    exact ⟨u, h1, h2⟩
  · obtain ⟨x, u, e, _, _⟩ := start_slot k i _ h
    cases e
theorem run_srd {K : PySem.W.Frag} {mg : Str → Option Value} {TL : List (Addr × Str)} {T : Addr} {H Hs : Hp} {Φ : Orc} {n : Nat} {body : Ss} {xs : List Va} {τ : Tp} {Q : VK} {E : XK} (h : FRd K mg TL T H Hs (run Φ n body xs τ) Q E) :
    SRd ⟨K, mg, T, H, Hs, TL⟩ (fun cls d _ H => E cls d H) Hs (exs Φ body (xs.map (fun v => some (Sl.sh v)) ++ List.replicate (n - xs.length) none) τ) { nx := fun _ H' => Q .non H', rt := Q } := by
  unfold run at h
  split at h
  · rename_i v τ' hr
    rw [hr]
    exact fun u H' Hs' e C k => h u H' Hs' C k
  · rename_i env τ' hr
    rw [hr]
    exact fun σ' H' Hs' e s => h .non H' Hs' s.core .non
  · rename_i cl τ' hr
    rw [hr]
    exact fun C σ' H' Hs' hC k => h C H' Hs' hC k
  · exact h.elim
section
variable {P : Program} {w : World} {K : PySem.W.Frag} {mg : Str → Option Value} {base : Heap} {TL : List (Addr × Str)} {Φ : Orc} {g : Sig} {kk : Nat}
theorem Tops.goodS (T : Tops P w K mg base TL Φ g kk) {N ps : List Str} {x : Str} {scope : Scope} (S : FnScope N ps scope) {f : Addr} {cdv : Value} {A : Around} {outer : List PySem.Env} {s : Shared} {H : Hp} {E : XK} {c : Fc} (hK : K = c.K) (hmg : mg = c.mg) (hTL : TL = c.TL)
    (hr : Room kk (A.deeper (envOfC x scope s.heap.objs.size f cdv))) : GoodS (cxOf (L2.CX P w) P w K mg base N x scope f cdv A outer s H E) (fun cls d _ H => E cls d H) c Φ g := by
  refine ⟨⟨rfl, S.nd, takes_of rfl rfl rfl rfl, hK, hmg, ?_, fun p hp => ?_, fun p hp => T.cst p hp, T.blt⟩, passes_of rfl, fun y hy => ?_, rfl, rfl⟩
  · have := hr.un
    show (A.deeper (envOfC x scope s.heap.objs.size f cdv)).units + 65 < cLine
    omega
  · obtain ⟨a, fd, ps, h1, h2, h3, h4⟩ := T.fns p hp
    subst hTL
    exact ⟨a, fd, ps, kk, h1, h2, h3, hr, h4⟩
  · obtain ⟨C, bmB, B, newId, initId, h1, h2, h3, h4, h5, h6, h7⟩ := T.exc y hy
    exact ⟨C, bmB, B, newId, initId, h1, h2, h3, h4, raises_own h5 h6, h7⟩
theorem def_ok {x : Str} {args : Arguments} {body : List Stmt} {scope : Scope} {f : Addr} {fd : FuncData} {N ps : List Str} {ast : Ss} (F : FunD K x x args body scope [] [] f fd) (S : FnScope N ps scope) (T : Tops P w K mg base TL Φ g kk)
    (hc : chkSs g ⟨N, scope, fun _ => true, none⟩ ast body = true) (hΦ : ∀ xs τ, xs.length = ps.length → Φ x xs τ = .stuck ∨ run Φ N.length ast xs τ = Φ x xs τ) : FnOk P w K mg base (L2.CX P w) (kk + 1) f fd ps (spD K mg TL ps.length (Φ x)) := by
  refine F.ok S (fun vs H Q E h => h.1) (fun cdv A outer s H vs Q E hr h => ?_)
  obtain ⟨hl, Ta, Hs, xs, τ, C, k, h⟩ := h
  have hlx : xs.length = ps.length := by rw [← k.len, hl]
  refine ⟨tSs Φ ⟨K, mg, Ta, H, Hs, TL⟩ (fun cls d _ H => E cls d H) ast, chkSs_ok ast (k := ⟨N, scope, fun _ => true, none⟩) ⟨rfl, rfl, rfl, S.kind, fun q hq => by cases hq⟩ (T.goodS S rfl rfl rfl hr) hc, ?_⟩
  rcases hΦ xs τ hlx with z | z
  · rw [z] at h
    exact h.elim
  · rw [← z] at h
    refine ⟨_, τ, Hs, ?_, run_srd h⟩
    have e : start N vs = vs.map some ++ List.replicate (N.length - xs.length) none := by rw [← k.len]; rfl
    rw [e]
    exact start_stt C k
end
end Dv

set_option Elab.async false
set_option linter.all false
set_option maxRecDepth 100000
set_option maxHeartbeats 4000000
/-! Dv19: a law's def; what the head tells. -/
namespace Dv
open PySem PySem.Spec PyProof.Rows L2
def fuelOf (i : Nat) : Dv.Env → Tp → Nat := fun env _ => match env[i]? with
  | some (some (.sh (.d (.int k)))) => k.natAbs + 1
  | some (some (.own _)) => 100000
  | _ => 0
def fuelC : Dv.Env → Tp → Nat := fun _ _ => 100000
def absI (i : Int) : Int := if i < 0 then -i else i
def seedOf (s : Int) (cs : List Int) : Int := cs.foldl (fun s c => (s * 31 + c).fmod 2147483647) s
def tape0 (ns : List Int) : Tp := { cells := ns.map absI, at_ := 0, left := 0, seed := seedOf 7 (ns.map absI), salt := 0 }
def spTape (K : PySem.W.Frag) : Sp := fun vs H Q _ => ∃ (a : Addr) (ns : List Int), vs = [V.ref a] ∧ SqL K H a (ns.map V.int) ∧ ns.length ≤ 100000 ∧
  ∀ (H' : Hp) (T c : Addr), (∀ b o, H b = some o → H' b = some o) → H c = none → H T = none → T ≠ c → H' c = some (.lst ((tape0 ns).cells.map V.int)) → H' T = some (.dK (tapeKvs c (tape0 ns))) → Q (.ref T) H'
theorem seedOf_range : ∀ (cs : List Int) (s : Int), 0 ≤ s → s < 2147483647 → 0 ≤ seedOf s cs ∧ seedOf s cs < 2147483647
  | [], s, h1, h2 => ⟨h1, h2⟩
  | c :: cs, s, h1, h2 => by
    have a := Int.fmod_nonneg_of_pos (s * 31 + c) (b := 2147483647) (by decide)
    have b := Int.fmod_lt_of_pos (s * 31 + c) (b := 2147483647) (by decide)
    exact seedOf_range cs _ a b
theorem bits_small {i : Int} (h1 : 0 ≤ i) (h2 : i < 2147483647) : CMulB i 31 := by
  have e1 : Builtin.Int.intBits i ≤ 31 := by
    refine PySem.intBits_le_iff.mpr ?_
    show i.natAbs < 2147483648
    omega
  have e2 : Builtin.Int.intBits (31 : Int) ≤ 31 := PySem.intBits_le_iff.mpr (by decide)
  show Builtin.Int.intBits i + Builtin.Int.intBits 31 ≤ 134217728
  omega
/-! ### promises by names -/
def Pr (P : Program) (w : World) (K : PySem.W.Frag) (mg : Str → Option Value) (base : Heap) (TL : List (Addr × Str)) (Φ : Orc) (kk : Nat) (x : Str) (n : Nat) : Prop :=
  ∃ (a : Addr) (fd : FuncData) (ps : List Str), mg x = some (.ref a) ∧ PySem.W.keepIn K (.ref a) = true ∧ Binds K fd ps [] ∧ FnOk P w K mg base (L2.CX P w) kk a fd ps (spD K mg TL n (Φ x))
def AllPr (P : Program) (w : World) (K : PySem.W.Frag) (mg : Str → Option Value) (base : Heap) (TL : List (Addr × Str)) (Φ : Orc) (kk : Nat) : List (Str × Nat) → Prop
  | [] => True
  | (x, n) :: r => Pr P w K mg base TL Φ kk x n ∧ AllPr P w K mg base TL Φ kk r
section
variable {P : Program} {w : World} {K : PySem.W.Frag} {mg : Str → Option Value} {base : Heap} {TL : List (Addr × Str)} {Φ : Orc} {g : Sig} {kk : Nat}
theorem Pr.mono {k2 : Nat} {x : Str} {n : Nat} (p : Pr P w K mg base TL Φ kk x n) (h : kk ≤ k2) : Pr P w K mg base TL Φ k2 x n := by
  obtain ⟨a, fd, ps, h1, h2, h3, h4⟩ := p
  exact ⟨a, fd, ps, h1, h2, h3, h4.mono h⟩
theorem AllPr.get : ∀ {l : List (Str × Nat)}, AllPr P w K mg base TL Φ kk l → ∀ p ∈ l, Pr P w K mg base TL Φ kk p.1 p.2
  | [], _, p, h => by simp at h
  | (x, n) :: r, a, p, h => by
    rcases List.mem_cons.mp h with rfl | h
    · exact a.1
    · exact AllPr.get a.2 p h
theorem AllPr.mono {k2 : Nat} (h : kk ≤ k2) : ∀ {l : List (Str × Nat)}, AllPr P w K mg base TL Φ kk l → AllPr P w K mg base TL Φ k2 l
  | [], _ => trivial
  | (x, n) :: r, a => ⟨a.1.mono h, AllPr.mono h a.2⟩
/-- the module's facts, by names -/
structure Mo (K : PySem.W.Frag) (mg : Str → Option Value) (cst : List (Str × D)) (exc : List Str) : Prop where
  cst : ∀ p ∈ cst, ∃ (u : Value) (v : V), mg p.1 = some u ∧ RelV v u ∧ ∀ H : Hp, Rp K H v p.2
  blt : ∀ x ∈ bltNames, mg x = none
  exc : ∀ x ∈ exc, ∃ (C : Addr) (bmB : List Value) (B newId initId : String), ExcBaseFacts B newId initId bmB ∧ PySem.W.excIn K C bmB newId = true ∧ mg x = some (.ref C) ∧ PySem.W.keepIn K (.ref C) = true ∧
    PySem.W.subIn K (.ref C) (.type "BaseException") = some true ∧ PySem.W.typeIn K (.ref C) = some (.type "type") ∧ PySem.W.exmOne K (.ref C) (.ref C) = some true
theorem Tops.of {cst : List (Str × D)} {exc : List Str} (M : Mo K mg cst exc) (hc : ∀ p ∈ g.cst, p ∈ cst) (he : ∀ x ∈ g.exc, x ∈ exc) (hf : AllPr P w K mg base TL Φ kk g.fns) : Tops P w K mg base TL Φ g kk :=
  ⟨fun p hp => hf.get p hp, fun p hp => M.cst p (hc p hp), M.blt, fun x hx => M.exc x (he x hx)⟩
/-! ### the law's def -/
structure RefK (P : Program) (w : World) (K : PySem.W.Frag) (mg : Str → Option Value) (base : Heap) (TL : List (Addr × Str)) (Φ : Orc) (g : Sig) (kk : Nat) (cA : Addr) (x cl : Str) : Prop where
  ex : ∃ (g0 CS P0 : Addr) (fd : FuncData) (args : Arguments) (sg : Scope) (a : Str) (j1 j2 : Nat) (p1 p2 p3 p4 p5 p6 p7 p8 p9 p10 : Pos),
    mg x = some (.ref g0) ∧ FunD K x x args (refBody a cl j1 j2 p1 p2 p3 p4 p5 p6 p7 p8 p9 p10) sg [] [] g0 fd ∧ Binds K fd [a] [] ∧ FnScope [a] [a] sg ∧ sg.names.lookup cl = some .globalImplicit ∧ nmOk a = true ∧
    mg cl = some (.ref CS) ∧ (cl == ("__debug__" : Str)) = false ∧ PySem.W.exmOne K (.ref CS) (.ref CS) = some true ∧
    LamX.TabB base mg cA P0 ∧ TL = [(P0, (("law" : Str) ++ ".<locals>." : Str) ++ "<lambda>")]
def lawEnv (n it : Nat) : Env := (List.replicate n none).set it (some (.sh .tp))
theorem lawEnv_at {n it i : Nat} {z : Sl} (h : (lawEnv n it)[i]? = some (some z)) : i = it ∧ z = .sh .tp := by
  unfold lawEnv at h
  by_cases e : i = it
  · subst e
    by_cases hl : i < (List.replicate n (none : Option Sl)).length
    · rw [List.getElem?_set_self hl] at h
      cases h
      exact ⟨rfl, rfl⟩
    · rw [List.getElem?_eq_none (by rw [List.length_set]; omega)] at h
      cases h
  · rw [List.getElem?_set_ne (Ne.symm e)] at h
    have := List.mem_of_getElem? h
    rw [List.mem_replicate] at this
    cases this.2
/-- what the law promises -/
def spLaw (K : PySem.W.Frag) (TL : List (Addr × Str)) (ok : List Int → Prop) : Sp := fun vs H Q _ => ∃ (a : Addr) (ns : List Int), vs = [V.ref a] ∧ SqL K H a (ns.map V.int) ∧ ok ns ∧ LamX.Tabs TL H ∧ ∀ H', Q (.bl true) H'
theorem law_start {T c0 : Addr} {H H' : Hp} {ns : List Int} {n it : Nat} {σ : L2.St} (ht : LamX.Tabs TL H) (keep : ∀ b o, H b = some o → H' b = some o) (ne : T ≠ c0) (h1 : H' c0 = some (.lst ((tape0 ns).cells.map V.int))) (h2 : H' T = some (.dK (tapeKvs c0 (tape0 ns)))) (hl : σ.length = n) (hit : it < n) :
    Stt ⟨K, mg, T, H', upd (fun _ => none) c0 (.lst ((tape0 ns).cells.map V.int)), TL⟩ (lawEnv n it) [] (tape0 ns) (σ.set it (some (.ref T))) H' (upd (fun _ => none) c0 (.lst ((tape0 ns).cells.map V.int))) := by
  have at_ : ∀ a o, upd (fun _ => none) c0 (.lst ((tape0 ns).cells.map V.int)) a = some o → a = c0 ∧ o = .lst ((tape0 ns).cells.map V.int) := fun a o e => by
    by_cases q : a = c0
    · rw [q, upd_same] at e
      cases e
      exact ⟨q, rfl⟩
    · rw [upd_ne q] at e
      cases e
  refine ⟨⟨fun a o e => ?_, fun a o e _ _ => e, Sub.refl _, fun a h => .inl h, ⟨c0, upd_same, h2⟩, upd_ne ne, fun a o e => ?_, ht.ext keep⟩, ?_, fun i z hz => ?_, fun i j xs ys a h _ _ _ => ?_, (fun p hp => nomatch hp), (fun p hp => nomatch hp), List.nodup_nil⟩
  · obtain ⟨rfl, rfl⟩ := at_ a o e
    exact h1
  · obtain ⟨rfl, rfl⟩ := at_ a o e
    exact fun ps z => nomatch z
  · unfold lawEnv
    rw [List.length_set, List.length_replicate, List.length_set, hl]
  · obtain ⟨rfl, rfl⟩ := lawEnv_at hz
    exact ⟨.ref T, by rw [List.getElem?_set_self (by omega)], rfl⟩
  · cases (lawEnv_at h).2
theorem law_ok {args : Arguments} {rest : List Stmt} {scope : Scope} {f : Addr} {fd : FuncData} {N : List Str} {ast : Ss} {r : Option (Str × Str)} {it : Nat} {ok : List Int → Prop} {p1 p2 p3 p4 p5 : Pos} {fT : Addr} {fdT : FuncData} {kT : Nat}
    (F : FunD K "law" "law" args (.Assign [.Name "tape" p1] (.Call (.Name "_law_tape" p2) [.Name "script" p3] [] p4) p5 :: rest) scope [] [] f fd) (S : FnScope N ["script"] scope) (T : Tops P w K mg base TL Φ g kk)
    (hN0 : N[0]? = some ("script" : Str)) (hvs : Vis scope "script") (hNt : N[it]? = some ("tape" : Str)) (hlt : Loc scope "tape") (hglT : scope.names.lookup ("_law_tape" : Str) = some .globalImplicit)
    (gT : mg "_law_tape" = some (.ref fT)) (kpT : PySem.W.keepIn K (.ref fT) = true) (bT : Binds K fdT ["script"] []) (okT : FnOk P w K mg base (L2.CX P w) kT fT fdT ["script"] (spTape K)) (hkT : kT ≤ kk + 2)
    (hc : chkSs g ⟨N, scope, fun _ => true, r⟩ ast rest = true) (hR : ∀ q, r = some q → ∀ cA, fd.code = .ref cA → RefK P w K mg base TL Φ g kk cA q.1 q.2)
    (hlaw : ∀ ns, ok ns → ns.length ≤ 100000 ∧ ∃ τ', exs Φ ast (lawEnv N.length it) (tape0 ns) = .ret (.d (.bool true)) τ') : FnOk P w K mg base (L2.CX P w) (kk + 3) f fd ["script"] (spLaw K TL ok) := by
  obtain ⟨oc, od, dV, kV, doc, pm, an, cdv, ct, osl, rfl, lk, hcd, _, _⟩ := F.ex
  refine fn_of lk hcd S (fun vs H Q E h => ?_) fun A outer s H vs Q E hr h => ?_
  · obtain ⟨a, ns, rfl, _⟩ := h
    rfl
  · obtain ⟨a, ns, rfl, hS, hok, hT, hQ⟩ := h
    obtain ⟨hl, τ', hrun⟩ := hlaw ns hok
    have T2 : Tops P w K mg base TL Φ g (kk + 2) := ⟨fun p hp => (Pr.mono (T.fns p hp) (by omega) : Pr P w K mg base TL Φ (kk + 2) p.1 p.2), T.cst, T.blt, T.exc⟩
    have hpl : it < N.length := (List.getElem?_eq_some_iff.mp hNt).1
    have hpl0 : 0 < N.length := (List.getElem?_eq_some_iff.mp hN0).1
    have hlen : (L2.start N [V.ref a]).length = N.length := by
      unfold L2.start
      rw [List.length_append, List.length_replicate, List.length_map]
      simp
      omega
    have rest_ok : PSs (cxOf (L2.CX P w) P w K mg base N "law" scope f cdv A outer s H E) rest (fun D σ H1 => ∃ c : Fc, c.K = K ∧ c.mg = mg ∧ c.TL = TL ∧ tSs Φ c (fun cls d _ H => E cls d H) ast D σ H1) := by
      refine ⟨fun pins s2 σ H2 D I ⟨c, e1, e2, e3, q⟩ => ?_⟩
      subst e3
      have GS := T2.goodS (c := c) (N := N) (ps := ["script"]) (x := "law") (f := f) (cdv := cdv) (A := A) (outer := outer) (s := s) (H := H) (E := E) S e1.symm e2.symm rfl hr
      have CK : CkOk c Φ g ⟨N, scope, fun _ => true, r⟩ (cxOf (L2.CX P w) P w K mg base N "law" scope f cdv A outer s H E) := by
        refine ⟨rfl, rfl, rfl, S.kind, fun q hq => ?_⟩
        obtain ⟨cA, hcA⟩ := He.codeIn_ref hcd
        obtain ⟨g0, CS, P0, fd2, args2, sg, a2, j1, j2, q1, q2, q3, q4, q5, q6, q7, q8, q9, q10, h1, h2, h3, h4, h5, h6, h7, h8, h9, h10, h11⟩ := (hR q hq cA hcA).ex
        have e11 : c.TL = [(P0, (cxOf (L2.CX P w) P w K mg base N "law" scope f cdv A outer s H E).env.qual ++ "<lambda>")] := h11
        exact ⟨⟨g0, CS, cA, P0, kk, fd2, args2, sg, a2, j1, j2, q1, q2, q3, q4, q5, q6, q7, q8, q9, q10, h1, h2, h3, h4, h5, h6, h7, h8, h9, h10, hcA, e11, hr, T.fns⟩⟩
      exact (chkSs_ok ast CK GS hc).run pins s2 σ H2 D I q
    refine ⟨_, pss_cons (ps_set (i := it) S.nd hNt hlt (pe_callS okT (hr.mono hkT) hglT gT kpT bT (fun σ => passAt (takes_of rfl rfl rfl rfl) σ) (pa_cons (pe_var (i := 0) hN0 hvs) pa_nil)) rfl (.inl rfl)) rest_ok, ?_⟩
    have h0 : (L2.start N [V.ref a])[0]? = some (some (V.ref a)) := rfl
    refine ⟨V.ref a, h0, a, ns, rfl, hS, hl, fun H' Ta c0 keep hc0 hTa ne h1 h2 => ?_⟩
    refine ⟨_, rfl, rfl, rfl, lawEnv N.length it, tape0 ns, _, law_start hT keep ne h1 h2 hlen hpl, ?_⟩
    rw [hrun]
    intro u H2 Hs2 _ _ k
    cases k
    exact hQ H2
end
end Dv

set_option Elab.async false
set_option linter.all false
set_option maxRecDepth 100000
set_option maxHeartbeats 4000000
/-! Dv20: from the head's facts to promises. -/
namespace Dv
open PySem PySem.Spec PyProof.Rows L2
section
variable {P : Program} {w : World} {K : PySem.W.Frag} {mg : Str → Option Value} {base h : Heap} {TL : List (Addr × Str)} {Φ : Orc} {g : Sig} {kk : Nat} {fa : List He.Fa} {fn : List He.DefD}
abbrev dAt (x : Str) (st : Stmt) : He.DefD := ⟨(x, none), x, x, defArgs st, defBody st, defScope st, [], []⟩
theorem fun_of (c : He.SaysD fa fn K) {x : Str} {st : Stmt} (hd : dAt x st ∈ fn) : ∃ fd, FunD K x x (defArgs st) (defBody st) (defScope st) [] [] (He.ga K x) fd := c.defs hd
theorem glo_of (X : K.In h) (G : h.Ns mainGlobals mg) (c : He.SaysD fa fn K) {x : Str} (hg : He.Fa.glo x ∈ fa) : mg x = some (.ref (He.ga K x)) := He.glo_ok X G (c.facts hg)
theorem pr_def (X : K.In h) (G : h.Ns mainGlobals mg) (c : He.SaysD fa fn K) {x : Str} {st : Stmt} {N ps : List Str} {ast : Ss} (hd : dAt x st ∈ fn) (hg : He.Fa.glo x ∈ fa) (S : FnScope N ps (defScope st)) (T : Tops P w K mg base TL Φ g kk)
    (hc : chkSs g ⟨N, defScope st, fun _ => true, none⟩ ast (defBody st) = true) (hΦ : ∀ xs τ, xs.length = ps.length → Φ x xs τ = .stuck ∨ run Φ N.length ast xs τ = Φ x xs τ)
    (hb : ∀ (kV doc pm : Value) (an : Option Addr) (cdv ct : Value) (us : List Value), us.length = ps.length → bindArgs (PySem.W.fnOf x x (defArgs st) (defBody st) (defScope st) .none kV doc pm an cdv ct) ⟨us, []⟩ = pure (ps.zip us)) : Pr P w K mg base TL Φ (kk + 1) x ps.length := by
  obtain ⟨fd, F⟩ := fun_of c hd
  exact ⟨_, fd, ps, glo_of X G c hg, F.kp, F.bindsN hb, def_ok F S T hc hΦ⟩
theorem mo_int (X : K.In h) (G : h.Ns mainGlobals mg) (c : He.SaysD fa fn K) {x : Str} {i : Int} (hg : He.Fa.int x i ∈ fa) : ∃ (u : Value) (v : V), mg x = some u ∧ RelV v u ∧ ∀ H : Hp, Rp K H v (.int i) := by
  obtain ⟨t, ht⟩ := He.int_ok X G (c.facts hg)
  exact ⟨_, .int i, ht, ⟨t, rfl⟩, fun _ => .int i⟩
theorem mo_exc (X : K.In h) (G : h.Ns mainGlobals mg) (c : He.SaysD fa fn K) {x : Str} (hg : He.Fa.glo x ∈ fa) (he : He.Fa.exc x ∈ fa) (hx : He.Fa.exm x x true ∈ fa) : ∃ (C : Addr) (bmB : List Value) (B newId initId : String), ExcBaseFacts B newId initId bmB ∧ PySem.W.excIn K C bmB newId = true ∧ mg x = some (.ref C) ∧ PySem.W.keepIn K (.ref C) = true ∧
    PySem.W.subIn K (.ref C) (.type "BaseException") = some true ∧ PySem.W.typeIn K (.ref C) = some (.type "type") ∧ PySem.W.exmOne K (.ref C) (.ref C) = some true := by
  obtain ⟨h1, h2, h3, h4⟩ := He.exc_ok (c.facts he)
  exact ⟨_, _, _, _, _, F.excBase_ValueError, h1, glo_of X G c hg, h2, h3, h4, He.exm_ok (c.facts hx)⟩
end
end Dv
namespace Dv
open PySem PySem.Spec PyProof.Rows L2
section
variable {P : Program} {w : World} {K : PySem.W.Frag} {mg : Str → Option Value} {base h : Heap} {TL : List (Addr × Str)} {Φ : Orc} {g : Sig} {kk : Nat} {fa : List He.Fa} {fn : List He.DefD}
theorem mo_of (X : K.In h) (G : h.Ns mainGlobals mg) (c : He.SaysD fa fn K) {csts : List (Str × D)} {excs : List Str} (hi : ∀ p ∈ csts, ∃ i, p.2 = .int i ∧ He.Fa.int p.1 i ∈ fa) (hb : ∀ x ∈ bltNames, He.Fa.free x ∈ fa) (he : ∀ x ∈ excs, He.Fa.glo x ∈ fa ∧ He.Fa.exc x ∈ fa ∧ He.Fa.exm x x true ∈ fa) : Mo K mg csts excs := by
  refine ⟨fun p hp => ?_, fun x hx => He.free_ok X G (c.facts (hb x hx)), fun x hx => mo_exc X G c (he x hx).1 (he x hx).2.1 (he x hx).2.2⟩
  obtain ⟨i, e, hm⟩ := hi p hp
  rw [e]
  exact mo_int X G c hm
/-- the law's lambdas' table -/
def tabL (K : PySem.W.Frag) : Addr := (He.cT K ("law", none)).2
def TLof (K : PySem.W.Frag) : List (Addr × Str) := [(tabL K, (("law" : Str) ++ ".<locals>." : Str) ++ "<lambda>")]
theorem ref_of (X : K.In base) (G : base.Ns mainGlobals mg) (c : He.SaysD fa fn K) {stL stR : Stmt} {x cl a : Str} {j1 j2 : Nat} {p1 p2 p3 p4 p5 p6 p7 p8 p9 p10 : Pos} (hd : dAt x stR ∈ fn) (hg : He.Fa.glo x ∈ fa) (hgc : He.Fa.glo cl ∈ fa) (hex : He.Fa.exm cl cl true ∈ fa)
    (hbody : defBody stR = refBody a cl j1 j2 p1 p2 p3 p4 p5 p6 p7 p8 p9 p10) (hb : ∀ (kV doc pm : Value) (an : Option Addr) (cdv ct : Value) (us : List Value), us.length = ([a] : List Str).length → bindArgs (PySem.W.fnOf x x (defArgs stR) (defBody stR) (defScope stR) .none kV doc pm an cdv ct) ⟨us, []⟩ = pure (([a] : List Str).zip us))
    (S : FnScope [a] [a] (defScope stR)) (hcl : (defScope stR).names.lookup cl = some .globalImplicit) (hn : nmOk a = true) (hdb : (cl == ("__debug__" : Str)) = false) (TB : LamX.TabB base mg (He.cT K ("law", none)).1 (tabL K))
    {fdL : FuncData} (FL : FunD K "law" "law" (defArgs stL) (defBody stL) (defScope stL) [] [] (He.ga K "law") fdL) {cA : Addr} (hcA : fdL.code = .ref cA) : RefK P w K mg base (TLof K) Φ g kk cA x cl := by
  obtain ⟨fd, F⟩ := fun_of c hd
  have F2 := F
  rw [hbody] at F2
  obtain ⟨oc, od, dV, kV, doc, pm, an, cdv, ct, osl, rfl, lk, hcd, _, _⟩ := FL.ex
  have e := He.codeOf_eq (K := K) (p := ("law", none)) lk hcA
  have e2 : (He.cT K ("law", none)).1 = cA := e
  rw [e2] at TB
  have B : Binds K fd [a] [] := F.bindsN hb
  exact ⟨⟨He.ga K x, He.ga K cl, tabL K, fd, _, _, a, j1, j2, p1, p2, p3, p4, p5, p6, p7, p8, p9, p10, glo_of X G c hg, F2, B, S, hcl, hn, glo_of X G c hgc, hdb, He.exm_ok (c.facts hex), TB, rfl⟩⟩
def okNs (ns : List Int) : Prop := ns.length ≤ 63 ∧ ∀ z ∈ ns, Builtin.Int.intBits z ≤ 1048576
/-- the end of a law with lambdas -/
theorem law_at {l : PySem.W.OpenLaw} {tf : List He.Defn} {ex : PySem.W.Frag → Bool} {fd : FuncData} {k : Nat} {f : Addr} (htf : tf = [(("law" : Str), none)]) (KX : K.In h) (c : He.SaysX fa fn [] tf ex w h K)
    (hb : ∀ (s : Shared) (u : Value), BindsTo s fd ⟨[u], []⟩ [(("script" : Str), u)])
    (hF : ∀ base : Heap, K.In base → base.Ns mainGlobals mg → LamX.TabB base mg (He.cT K ("law", none)).1 (tabL K) → FnOk l.prog w K mg base (L2.CX l.prog w) k f fd ["script"] (spLaw K (TLof K) okNs)) : LamX.LawAtS l w K (L2.CX l.prog w) k 63 "script" mg f h := by
  subst htf
  refine ⟨fd, [He.cT K ("law", none)], spLaw K (TLof K) okNs, fun p hp => ?_, fun p hp => ?_, fun p hp => ?_, hb, fun H a ns hl hbits hT hS => ?_, fun base X G TB => hF base X G (TB _ (by simp))⟩
  · rw [List.mem_singleton.mp hp]
    exact c.empty _ (by simp)
  · rw [List.mem_singleton.mp hp]
    exact c.out _ (by simp)
  · rw [List.mem_singleton.mp hp]
    exact PySem.W.codeHd_of_K KX (c.hd _ (by simp))
  · refine ⟨a, ns, rfl, hS, ⟨hl, hbits⟩, fun p hp => ?_, fun _ => rfl⟩
    rw [List.mem_singleton.mp hp]
    exact LamX.TabS.nil (hT _ (by simp))
/-- the end of a law without lambdas -/
theorem law_at0 {l : PySem.W.OpenLaw} {ex : PySem.W.Frag → Bool} {fd : FuncData} {k : Nat} {f : Addr} (hb : ∀ (s : Shared) (u : Value), BindsTo s fd ⟨[u], []⟩ [(("script" : Str), u)])
    (hF : ∀ base : Heap, K.In base → base.Ns mainGlobals mg → FnOk l.prog w K mg base (L2.CX l.prog w) k f fd ["script"] (spLaw K [] okNs)) : LamX.LawAtS l w K (L2.CX l.prog w) k 63 "script" mg f h :=
  ⟨fd, [], spLaw K [] okNs, (fun p hp => nomatch hp), (fun p hp => nomatch hp), (fun p hp => nomatch hp), hb, fun H a ns hl hbits _ hS => ⟨a, ns, rfl, hS, ⟨hl, hbits⟩, (fun p hp => nomatch hp), fun _ => rfl⟩, fun base X G _ => hF base X G⟩
theorem cx_false {P : Program} {w : World} (H : Hp) (s : Shared) (e : Value) (s' : Shared) : L2.CX P w [] H s (fun _ _ _ => False) e s' → False := fun ⟨_, _, _, _, _, _, _, _, _, _, _, _, z⟩ => z
end
end Dv

set_option Elab.async false
set_option linter.all false
set_option maxRecDepth 100000
set_option maxHeartbeats 1000000
/-! Dv21: reckoning: the steps as equations. -/
namespace Dv
open PySem PySem.Spec PyProof.Rows L2
abbrev sI (i : Int) : Option Sl := some (.sh (.d (.int i)))
abbrev sD (x : D) : Option Sl := some (.sh (.d x))
abbrev sO (x : List D) : Option Sl := some (.own x)
section
variable {α β : Type} {a : α} {env e2 : Env} {τ t2 : Tp} {c : Str}
@[simp] theorem bind_r {f : α → Env → Tp → R β} : (Dv.R.ok a env τ).bind f = f a env τ := rfl
@[simp] theorem bind_e {f : α → Env → Tp → R β} : (Dv.R.err c τ : R α).bind f = .err c τ := rfl
@[simp] theorem bind_s {f : α → Env → Tp → R β} : (Dv.R.stuck : R α).bind f = .stuck := rfl
@[simp] theorem st_r {f : α → Env → Tp → SR} : (Dv.R.ok a env τ).st f = f a env τ := rfl
@[simp] theorem st_e {f : α → Env → Tp → SR} : (Dv.R.err c τ : R α).st f = .err c τ := rfl
@[simp] theorem st_s {f : α → Env → Tp → SR} : (Dv.R.stuck : R α).st f = .stuck := rfl
@[simp] theorem of_some {f : α → R β} : of? (some a) f = f a := rfl
@[simp] theorem of_none {f : α → R β} : of? none f = .stuck := rfl
@[simp] theorem ofS_some {f : α → SR} : ofS (some a) f = f a := rfl
@[simp] theorem ofS_none {f : α → SR} : ofS none f = .stuck := rfl
@[simp] theorem seq_nx {f : Env → Tp → SR} : (SR.nx env τ).seq f = f env τ := rfl
@[simp] theorem seq_ret {f : Env → Tp → SR} {v : Va} : (SR.ret v τ).seq f = .ret v τ := rfl
@[simp] theorem seq_err {f : Env → Tp → SR} : (SR.err c τ).seq f = .err c τ := rfl
@[simp] theorem seq_brk {f : Env → Tp → SR} : (SR.brk env τ).seq f = .brk env τ := rfl
@[simp] theorem seq_cnt {f : Env → Tp → SR} : (SR.cnt env τ).seq f = .cnt env τ := rfl
@[simp] theorem seq_stuck {f : Env → Tp → SR} : SR.stuck.seq f = .stuck := rfl
@[simp] theorem unfr_sh {v : Va} : unfr (.sh v) = .sh v := rfl
@[simp] theorem unfr_br {i : Nat} : unfr (.br i) = .br i := rfl
@[simp] theorem unfr_fr {xs : List D} : unfr (.fr xs) = .sh (.d (.list xs)) := rfl
@[simp] theorem look_sh {x : D} : lookD env (.sh (.d x)) = some x := rfl
@[simp] theorem look_fr {x : List D} : lookD env (.fr x) = some (.list x) := rfl
theorem look_br {i : Nat} {x : D} (h : env[i]? = some (some (.sh (.d x)))) : lookD env (.br i) = some x := by
  simp only [lookD, look, h]
theorem look_own {i : Nat} {x : List D} (h : env[i]? = some (some (.own x))) : lookD env (.br i) = some (.list x) := by
  simp only [lookD, look, h]
@[simp] theorem share_sh {v : Va} : share env (.sh v) = some (v, env) := rfl
@[simp] theorem share_fr {xs : List D} : share env (.fr xs) = some (.d (.list xs), env) := rfl
theorem share_br {i : Nat} {v : Va} (h : env[i]? = some (some (.sh v))) : share env (.br i) = some (v, env) := by
  simp only [share, h]
theorem share_own {i : Nat} {xs : List D} (h : env[i]? = some (some (.own xs))) : share env (.br i) = some (.d (.list xs), env.set i (some (.sh (.d (.list xs))))) := by
  simp only [share, h]
@[simp] theorem slotOf_fr {xs : List D} : slotOf env (.fr xs) = some (.own xs, env) := rfl
@[simp] theorem slotOf_sh {v : Va} : slotOf env (.sh v) = some (.sh v, env) := rfl
theorem slotOf_br {i : Nat} {v : Va} (h : env[i]? = some (some (.sh v))) : slotOf env (.br i) = some (.sh v, env) := by
  show (share env (.br i)).map _ = _
  rw [share_br h]
  rfl
@[simp] theorem shareAll_nil : shareAll env [] = some ([], env) := rfl
theorem shareAll_cons {r : Rv} {rs : List Rv} {v : Va} {vs : List Va} {e1 : Env} (h : share env r = some (v, e1)) (h2 : shareAll e1 rs = some (vs, e2)) : shareAll env (r :: rs) = some (v :: vs, e2) := by
  unfold shareAll
  rw [h]
  show (shareAll e1 rs).map _ = _
  rw [h2]
  rfl
@[simp] theorem dats_nil : dats [] = some [] := rfl
@[simp] theorem dats_d {x : D} {vs : List Va} : dats (.d x :: vs) = (dats vs).map (x :: ·) := rfl
@[simp] theorem lookDs_nil : lookDs env [] = some [] := rfl
@[simp] theorem lookDs_cons {r : Rv} {rs : List Rv} : lookDs env (r :: rs) = (lookD env r).bind fun x => (lookDs env rs).map (x :: ·) := rfl
theorem ev_var {Φ : Orc} {i : Nat} {s : Sl} (h : env[i]? = some (some s)) : ev Φ (.var i) env τ = .ok (.br i) env τ := by
  simp only [ev, h]
@[simp] theorem shaped_int (i : Int) : SeqAt.shaped (.int i) = true := by
  unfold SeqAt.shaped
  simp [PyData.canLay0, PyData.depth]
@[simp] theorem shaped_none : SeqAt.shaped .none = true := by
  unfold SeqAt.shaped
  simp [PyData.canLay0, PyData.depth]
@[simp] theorem shaped_bool (i : Bool) : SeqAt.shaped (.bool i) = true := by
  unfold SeqAt.shaped
  simp [PyData.canLay0, PyData.depth]
@[simp] theorem eqv_int (i j : Int) : PyData.eqv (.int i) (.int j) = decide (i = j) := by
  show (i == j) = _
  exact Bool.beq_eq_decide_eq i j
@[simp] theorem cmp_eq (i j : Int) : cmpD .eq (.int i) (.int j) = some (decide (i = j)) := by simp [cmpD]
@[simp] theorem cmp_ne (i j : Int) : cmpD .ne (.int i) (.int j) = some (!decide (i = j)) := by simp [cmpD]
@[simp] theorem cmp_lt (i j : Int) : cmpD .lt (.int i) (.int j) = some (decide (i < j)) := rfl
@[simp] theorem cmp_le (i j : Int) : cmpD .le (.int i) (.int j) = some (decide (i ≤ j)) := rfl
@[simp] theorem cmp_gt (i j : Int) : cmpD .gt (.int i) (.int j) = some (decide (j < i)) := rfl
@[simp] theorem cmp_ge (i j : Int) : cmpD .ge (.int i) (.int j) = some (decide (j ≤ i)) := rfl
@[simp] theorem bin_add (i j : Int) : binD .add (.int i) (.int j) = some (.sh (.d (.int (i + j)))) := rfl
@[simp] theorem bin_sub (i j : Int) : binD .sub (.int i) (.int j) = some (.sh (.d (.int (i - j)))) := rfl
theorem bin_mul {i j : Int} (h : bitsOk i j = true) : binD .mul (.int i) (.int j) = some (.sh (.d (.int (i * j)))) := if_pos h
theorem bin_mod {i j : Int} (h : j ≠ 0) : binD .mod (.int i) (.int j) = some (.sh (.d (.int (i.fmod j)))) := if_neg h
theorem bin_fdiv {i j : Int} (h : j ≠ 0) (h2 : j.natAbs.log2 < 9000) : binD .fdiv (.int i) (.int j) = some (.sh (.d (.int (i.fdiv j)))) := by
  have : (j = 0 || !decide (j.natAbs.log2 < 9000)) = false := by simp [h, h2]
  unfold binD
  simp [h, h2]
@[simp] theorem truth_bool (b : Bool) : truthD (.bool b) = some b := rfl
@[simp] theorem truth_int (i : Int) : truthD (.int i) = some (decide (i ≠ 0)) := by
  show some (i != 0) = _
  congr 1
  simp [bne, Bool.beq_eq_decide_eq]
end
end Dv

set_option Elab.async false
set_option linter.all false
set_option maxRecDepth 100000
set_option maxHeartbeats 1000000
/-! Dv22: fractions: the defs that every law has, reckoned. -/
namespace Fx
open PySem PySem.Spec PyProof.Rows L2 Dv
/-! share -/
def F_share_0 : Dv.Env → Tp → Nat := fuelOf 3
def N_share : List Str := ["n", "d", "a", "b"]
def W_share_0 : T := (.val (.var 3))
def B_share_0 : Ss :=
    (.cons (.par [2, 3] (.cons (.var 3) (.cons (.bin .mod (.var 2) (.var 3)) .nil)))
    .nil)
def A_share : Ss :=
    (.cons (.ifS (.cmp .eq (.var 1) (.cI 0)) (.cons (.raise "InvalidShare")
    .nil) .nil)
    (.cons (.ifS (.cmp .lt (.var 1) (.cI 0)) (.cons (.par [0, 1] (.cons (.neg (.var 0)) (.cons (.neg (.var 1)) .nil)))
    .nil) .nil)
    (.cons (.par [2, 3] (.cons (.blt .abs (.cons (.var 0) .nil)) (.cons (.var 1) .nil)))
    (.cons (.whileS F_share_0 W_share_0 B_share_0)
    (.cons (.ret (.tup (.cons (.bin .fdiv (.var 0) (.var 2)) (.cons (.bin .fdiv (.var 1) (.var 2)) .nil))))
    .nil)))))
def g_share : Sig := ⟨[], [], ["InvalidShare"]⟩

/-! plus -/
def N_plus : List Str := ["a", "b"]
def A_plus : Ss :=
    (.cons (.ret (.call "share" (.cons (.bin .add (.bin .mul (.idx (.var 0) (.cI 0)) (.idx (.var 1) (.cI 1))) (.bin .mul (.idx (.var 1) (.cI 0)) (.idx (.var 0) (.cI 1)))) (.cons (.bin .mul (.idx (.var 0) (.cI 1)) (.idx (.var 1) (.cI 1))) .nil))))
    .nil)
def g_plus : Sig := ⟨[("share", 2)], [], []⟩

/-! minus -/
def N_minus : List Str := ["a", "b"]
def A_minus : Ss :=
    (.cons (.ret (.call "share" (.cons (.bin .sub (.bin .mul (.idx (.var 0) (.cI 0)) (.idx (.var 1) (.cI 1))) (.bin .mul (.idx (.var 1) (.cI 0)) (.idx (.var 0) (.cI 1)))) (.cons (.bin .mul (.idx (.var 0) (.cI 1)) (.idx (.var 1) (.cI 1))) .nil))))
    .nil)
def g_minus : Sig := ⟨[("share", 2)], [], []⟩

/-! times -/
def N_times : List Str := ["a", "b"]
def A_times : Ss :=
    (.cons (.ret (.call "share" (.cons (.bin .mul (.idx (.var 0) (.cI 0)) (.idx (.var 1) (.cI 0))) (.cons (.bin .mul (.idx (.var 0) (.cI 1)) (.idx (.var 1) (.cI 1))) .nil))))
    .nil)
def g_times : Sig := ⟨[("share", 2)], [], []⟩

/-! over -/
def N_over : List Str := ["a", "b"]
def A_over : Ss :=
    (.cons (.ret (.call "share" (.cons (.bin .mul (.idx (.var 0) (.cI 0)) (.idx (.var 1) (.cI 1))) (.cons (.bin .mul (.idx (.var 0) (.cI 1)) (.idx (.var 1) (.cI 0))) .nil))))
    .nil)
def g_over : Sig := ⟨[("share", 2)], [], []⟩

/-! less -/
def N_less : List Str := ["a", "b"]
def A_less : Ss :=
    (.cons (.ret (.cmp .lt (.bin .mul (.idx (.var 0) (.cI 0)) (.idx (.var 1) (.cI 1))) (.bin .mul (.idx (.var 1) (.cI 0)) (.idx (.var 0) (.cI 1)))))
    .nil)
def g_less : Sig := ⟨[], [], []⟩

/-! size -/
def N_size : List Str := ["a"]
def A_size : Ss :=
    (.cons (.ret (.tup (.cons (.blt .abs (.cons (.idx (.var 0) (.cI 0)) .nil)) (.cons (.idx (.var 0) (.cI 1)) .nil))))
    .nil)
def g_size : Sig := ⟨[], [], []⟩

/-! is_share -/
def N_is_share : List Str := ["a"]
def A_is_share : Ss :=
    (.cons (.ret (.and_ (.cmp .gt (.idx (.var 0) (.cI 1)) (.cI 0)) (.cmp .eq (.call "share" (.cons (.idx (.var 0) (.cI 0)) (.cons (.idx (.var 0) (.cI 1)) .nil))) (.tup (.cons (.idx (.var 0) (.cI 0)) (.cons (.idx (.var 0) (.cI 1)) .nil))))))
    .nil)
def g_is_share : Sig := ⟨[("share", 2)], [], []⟩

/-! _law_take -/
def N_law_take : List Str := ["tape", "many", "drawn", "mixed"]
def A_law_take : Ss :=
    (.cons (.ifS (.and_ (.cmp .eq (.tget 0 .left) (.cI 0)) (.cmp .lt (.tget 0 .at_) (.blt .len (.cons (.tget 0 .cells) .nil)))) (.cons (.tset 0 .left (.idx (.tget 0 .cells) (.tget 0 .at_)))
    (.cons (.tset 0 .at_ (.bin .add (.tget 0 .at_) (.cI 1)))
    .nil)) .nil)
    (.cons (.ifS (.cmp .gt (.tget 0 .left) (.cI 0)) (.cons (.set 2 (.bin .mod (.blt .int (.cons (.tget 0 .left) .nil)) (.var 1)))
    (.cons (.tset 0 .left (.bin .fdiv (.tget 0 .left) (.var 1)))
    (.cons (.ret (.var 2))
    .nil))) .nil)
    (.cons (.tset 0 .salt (.bin .add (.tget 0 .salt) (.cI 1)))
    (.cons (.set 3 (.bin .mod (.blt .int (.cons (.bin .add (.bin .mul (.tget 0 .seed) (.cI 48271)) (.bin .mul (.tget 0 .salt) (.cI 69621))) .nil)) (.cI 2147483647)))
    (.cons (.set 3 (.bin .mod (.blt .int (.cons (.bin .add (.bin .add (.bin .mul (.var 3) (.var 3)) (.bin .mul (.tget 0 .salt) (.cI 40692))) (.cI 12345)) .nil)) (.cI 2147483399)))
    (.cons (.ret (.bin .mod (.blt .int (.cons (.var 3) .nil)) (.var 1)))
    .nil))))))
def g_law_take : Sig := ⟨[], [], []⟩

/-! _law_gcd -/
def F_law_gcd_0 : Dv.Env → Tp → Nat := fuelOf 1
def N_law_gcd : List Str := ["a", "b"]
def W_law_gcd_0 : T := (.cmp .gt (.var 1) (.cI 0))
def B_law_gcd_0 : Ss :=
    (.cons (.par [0, 1] (.cons (.var 1) (.cons (.bin .mod (.blt .int (.cons (.var 0) .nil)) (.var 1)) .nil)))
    .nil)
def A_law_gcd : Ss :=
    (.cons (.par [0, 1] (.cons (.blt .abs (.cons (.var 0) .nil)) (.cons (.blt .abs (.cons (.var 1) .nil)) .nil)))
    (.cons (.whileS F_law_gcd_0 W_law_gcd_0 B_law_gcd_0)
    (.cons (.ret (.var 0))
    .nil)))
def g_law_gcd : Sig := ⟨[], [], []⟩

/-! _law_ratio -/
def N_law_ratio : List Str := ["n", "d", "most"]
def A_law_ratio : Ss :=
    (.cons (.ifS (.cmp .lt (.var 1) (.cI 0)) (.cons (.par [0, 1] (.cons (.bin .sub (.cI 0) (.var 0)) (.cons (.bin .sub (.cI 0) (.var 1)) .nil)))
    .nil) .nil)
    (.cons (.set 2 (.call "_law_gcd" (.cons (.var 0) (.cons (.var 1) .nil))))
    (.cons (.ret (.tup (.cons (.bin .fdiv (.var 0) (.var 2)) (.cons (.bin .fdiv (.var 1) (.var 2)) .nil))))
    .nil)))
def g_law_ratio : Sig := ⟨[("_law_gcd", 2)], [], []⟩

/-! _law_lot -/
def N_law_lot : List Str := ["tape", "many", "weights", "k", "weight"]
def K_law_lot_0 : E := (.call "_law_ratio" (.cons (.var 4) (.cons (.blt .sum (.cons (.var 2) .nil)) .nil)))
def C_law_lot_0 : E := .comp K_law_lot_0 (.name 4) .seq (.cons (.var 2) .nil) .yes [("weight", 4)]
def K_law_lot_1 : E := (.call "_law_take" (.cons (.var 0) (.cons (.cI 5) .nil)))
def C_law_lot_1 : E := .comp K_law_lot_1 (.name 3) .range1 (.cons (.var 1) .nil) .yes [("k", 3)]
def A_law_lot : Ss :=
    (.cons (.set 2 C_law_lot_1)
    (.cons (.setIx 2 (.call "_law_take" (.cons (.var 0) (.cons (.var 1) .nil))) (.bin .add (.cI 1) (.call "_law_take" (.cons (.var 0) (.cons (.cI 3) .nil)))))
    (.cons (.ret (.blt .tuple (.cons C_law_lot_0 .nil)))
    .nil)))
def g_law_lot : Sig := ⟨[("_law_ratio", 2), ("_law_take", 2)], [], []⟩

/-! _law_sum -/
def N_law_sum : List Str := ["row", "n", "d", "a", "b"]
def B_law_sum_0 : Ss :=
    (.cons (.unp (.tup [(.name 1), (.name 2)]) (.call "_law_ratio" (.cons (.bin .add (.bin .mul (.var 1) (.var 4)) (.bin .mul (.var 3) (.var 2))) (.cons (.bin .mul (.var 2) (.var 4)) .nil))))
    .nil)
def A_law_sum : Ss :=
    (.cons (.par [1, 2] (.cons (.cI 0) (.cons (.cI 1) .nil)))
    (.cons (.forS (.tup [(.name 3), (.name 4)]) .seq (.cons (.var 0) .nil) B_law_sum_0)
    (.cons (.ret (.tup (.cons (.var 1) (.cons (.var 2) .nil))))
    .nil)))
def g_law_sum : Sig := ⟨[("_law_ratio", 2)], [], []⟩

/-! _law_times -/
def N_law_times : List Str := ["a", "b"]
def A_law_times : Ss :=
    (.cons (.ret (.call "_law_ratio" (.cons (.bin .mul (.idx (.var 0) (.cI 0)) (.idx (.var 1) (.cI 0))) (.cons (.bin .mul (.idx (.var 0) (.cI 1)) (.idx (.var 1) (.cI 1))) .nil))))
    .nil)
def g_law_times : Sig := ⟨[("_law_ratio", 2)], [], []⟩

/-! _law_minus -/
def N_law_minus : List Str := ["a", "b"]
def A_law_minus : Ss :=
    (.cons (.ret (.call "_law_ratio" (.cons (.bin .sub (.bin .mul (.idx (.var 0) (.cI 0)) (.idx (.var 1) (.cI 1))) (.bin .mul (.idx (.var 1) (.cI 0)) (.idx (.var 0) (.cI 1)))) (.cons (.bin .mul (.idx (.var 0) (.cI 1)) (.idx (.var 1) (.cI 1))) .nil))))
    .nil)
def g_law_minus : Sig := ⟨[("_law_ratio", 2)], [], []⟩

/-! _law_less -/
def N_law_less : List Str := ["a", "b"]
def A_law_less : Ss :=
    (.cons (.ret (.cmp .lt (.bin .mul (.idx (.var 0) (.cI 0)) (.idx (.var 1) (.cI 1))) (.bin .mul (.idx (.var 1) (.cI 0)) (.idx (.var 0) (.cI 1)))))
    .nil)
def g_law_less : Sig := ⟨[], [], []⟩

/-! _law_dot -/
def N_law_dot : List Str := ["one", "other", "k"]
def K_law_dot_0 : E := (.call "_law_times" (.cons (.idx (.var 0) (.var 2)) (.cons (.idx (.var 1) (.var 2)) .nil)))
def C_law_dot_0 : E := .comp K_law_dot_0 (.name 2) .range1 (.cons (.blt .len (.cons (.var 0) .nil)) .nil) .yes [("k", 2)]
def A_law_dot : Ss :=
    (.cons (.ret (.call "_law_sum" (.cons C_law_dot_0 .nil)))
    .nil)
def g_law_dot : Sig := ⟨[("_law_sum", 1), ("_law_times", 2)], [], []⟩

/-! _law_small -/
def N_law_small : List Str := ["tape", "top"]
def A_law_small : Ss :=
    (.cons (.ret (.call "_law_ratio" (.cons (.bin .sub (.call "_law_take" (.cons (.var 0) (.cons (.bin .add (.bin .mul (.cI 2) (.var 1)) (.cI 1)) .nil))) (.var 1)) (.cons (.bin .add (.cI 1) (.call "_law_take" (.cons (.var 0) (.cons (.cI 2) .nil)))) .nil))))
    .nil)
def g_law_small : Sig := ⟨[("_law_ratio", 2), ("_law_take", 2)], [], []⟩


/-- a fraction in lowest terms -/
def fr (q : Rat) : D := .tuple [.int q.num, .int (q.den : Int)]
/-- small enough for every rule -/
def BIG : Nat := 2 ^ 4000
def sm (i : Int) : Prop := i.natAbs < BIG
theorem sm_bits {i j : Int} (h1 : sm i) (h2 : sm j) : bitsOk i j = true := by
  have a : Builtin.Int.intBits i ≤ 4000 := PySem.intBits_le_iff.mpr h1
  have b : Builtin.Int.intBits j ≤ 4000 := PySem.intBits_le_iff.mpr h2
  unfold bitsOk
  exact decide_eq_true (by omega)
theorem sm_log {i : Int} (h : sm i) (h0 : i ≠ 0) : i.natAbs.log2 < 9000 := by
  have h' : i.natAbs < 2 ^ 4000 := h
  have : i.natAbs.log2 < 4000 := (Nat.log2_lt (by omega)).mpr h'
  omega
theorem sm_le {i j : Int} (h : sm j) (hij : i.natAbs ≤ j.natAbs) : sm i := Nat.lt_of_le_of_lt hij h
theorem mod_nat (a b : Nat) (hb : b ≠ 0) : (a : Int).fmod b = ((a % b : Nat) : Int) := by
  rw [Int.fmod_eq_emod_of_nonneg _ (by omega)]
  simp
theorem gcd_share (Φ : Orc) (τ : Tp) (x y : Option Sl) : ∀ (fuel : Nat) (a b : Nat), b < fuel → whileLoop (evT Φ W_share_0) (exs Φ B_share_0) fuel [x, y, sI a, sI b] τ = .nx [x, y, sI (Nat.gcd a b), sI 0] τ
  | 0, _, _, h => by omega
  | f + 1, a, b, h => by
    by_cases hb : b = 0
    · subst hb
      simp [whileLoop, W_share_0, W_law_gcd_0, evT, ev, look_br, truthD]
    · have h1 : ¬ ((b : Int) = 0) := by omega
      have h2 : binD .mod (.int (a : Int)) (.int (b : Int)) = some (.sh (.d (.int ((a % b : Nat) : Int)))) := by rw [bin_mod h1, mod_nat a b hb]
      have step : exs Φ B_share_0 [x, y, sI a, sI b] τ = .nx [x, y, sI b, sI ((a % b : Nat) : Int)] τ := by
        simp [B_share_0, exs, ex, ev, evP, look_br, slotOf_br, h2, setAll]
      have t : evT Φ W_share_0 [x, y, sI a, sI b] τ = .ok true [x, y, sI a, sI b] τ := by
        simp [W_share_0, evT, ev, look_br, h1, hb]
      rw [whileLoop, t]
      dsimp only
      rw [step]
      dsimp only
      rw [gcd_share Φ τ x y f b (a % b) (by have := Nat.mod_lt a (show b > 0 by omega); omega)]
      rw [Nat.gcd_comm a b, Nat.gcd_rec b a]
      congr 4
      rw [Nat.gcd_comm]
theorem gcd_law (Φ : Orc) (τ : Tp) : ∀ (fuel : Nat) (a b : Nat), b < fuel → whileLoop (evT Φ W_law_gcd_0) (exs Φ B_law_gcd_0) fuel [sI a, sI b] τ = .nx [sI (Nat.gcd a b), sI 0] τ
  | 0, _, _, h => by omega
  | f + 1, a, b, h => by
    by_cases hb : b = 0
    · subst hb
      simp [whileLoop, W_share_0, W_law_gcd_0, evT, ev, look_br, truthD]
    · have h1 : ¬ ((b : Int) = 0) := by omega
      have h2 : binD .mod (.int (a : Int)) (.int (b : Int)) = some (.sh (.d (.int ((a % b : Nat) : Int)))) := by rw [bin_mod h1, mod_nat a b hb]
      have step : exs Φ B_law_gcd_0 [sI a, sI b] τ = .nx [sI b, sI ((a % b : Nat) : Int)] τ := by
        simp [B_law_gcd_0, exs, ex, ev, evA, evP, look_br, slotOf_br, h2, setAll, bltD]
      have t : evT Φ W_law_gcd_0 [sI a, sI b] τ = .ok true [sI a, sI b] τ := by
        have h3 : 0 < b := by omega
        simp [W_law_gcd_0, evT, ev, look_br, h3]
      rw [whileLoop, t]
      dsimp only
      rw [step]
      dsimp only
      rw [gcd_law Φ τ f b (a % b) (by have := Nat.mod_lt a (show b > 0 by omega); omega)]
      rw [Nat.gcd_comm a b, Nat.gcd_rec b a]
      congr 3
      rw [Nat.gcd_comm]
theorem abs_nat (n : Int) : (if n < 0 then -n else n) = (n.natAbs : Int) := by
  split <;> omega
/-- lowest terms, the divisor above 0 -/
theorem low_terms {n d : Int} (hd : 0 < d) : fr (Rat.divInt n d) = .tuple [.int (n.fdiv (Nat.gcd n.natAbs d.natAbs : Nat)), .int (d.fdiv (Nat.gcd n.natAbs d.natAbs : Nat))] := by
  have hg : 0 < Nat.gcd n.natAbs d.natAbs := Nat.gcd_pos_of_pos_right _ (by omega)
  unfold fr
  rw [Rat.num_divInt, Rat.den_divInt, if_neg (by omega)]
  have e : d.gcd n = Nat.gcd n.natAbs d.natAbs := by rw [Int.gcd, Nat.gcd_comm]
  rw [e, Int.sign_eq_one_of_pos hd, Int.one_mul, Int.fdiv_eq_ediv_of_nonneg _ (by omega), Int.fdiv_eq_ediv_of_nonneg _ (by omega)]
  congr 3
  have hdn : d = (d.natAbs : Int) := by omega
  conv => rhs; rw [hdn]
  rw [← Int.natCast_ediv]
  simp
theorem share_pos (Φ : Orc) (n d : Int) (τ : Tp) (hd : 0 < d) (hs : sm d) : Dv.run Φ N_share.length A_share [.d (.int n), .d (.int d)] τ = .ok (.d (fr (Rat.divInt n d))) τ := by
  have h0 : ¬ d = 0 := by omega
  have h1 : ¬ d < 0 := by omega
  have hg : 0 < Nat.gcd n.natAbs d.natAbs := Nat.gcd_pos_of_pos_right _ (by omega)
  have hgd : Nat.gcd n.natAbs d.natAbs ≤ d.natAbs := Nat.gcd_le_right _ (by omega)
  have hg0 : ((Nat.gcd n.natAbs d.natAbs : Nat) : Int) ≠ 0 := by omega
  have hsg : sm (Nat.gcd n.natAbs d.natAbs : Nat) := sm_le hs (by omega)
  have hl := sm_log hsg hg0
  have hw : whileLoop (evT Φ W_share_0) (exs Φ B_share_0) (F_share_0 [sI n, sI d, sI (n.natAbs : Nat), sI d] τ) [sI n, sI d, sI (n.natAbs : Nat), sI d] τ = .nx [sI n, sI d, sI (Nat.gcd n.natAbs d.natAbs : Nat), sI 0] τ := by
    have e : d = (d.natAbs : Int) := by omega
    have := gcd_share Φ τ (sI n) (sI d) (F_share_0 [sI n, sI d, sI (n.natAbs : Nat), sI d] τ) n.natAbs d.natAbs (by simp [F_share_0, fuelOf])
    rw [← e] at this
    exact this
  rw [low_terms hd]
  simp [Dv.run, A_share, N_share, exs, ex, ev, evA, evT, evP, look_br, share_br, slotOf_br, h0, h1, bltD, setAll, abs_nat, hw, bin_fdiv hg0 hl, okLen, shareAll]
theorem share_neg (Φ : Orc) (n d : Int) (τ : Tp) (hd : d < 0) (hs : sm d) : Dv.run Φ N_share.length A_share [.d (.int n), .d (.int d)] τ = .ok (.d (fr (Rat.divInt n d))) τ := by
  have h0 : ¬ d = 0 := by omega
  have hd' : 0 < -d := by omega
  have hs' : sm (-d) := sm_le hs (by omega)
  have hg : 0 < Nat.gcd (-n).natAbs (-d).natAbs := Nat.gcd_pos_of_pos_right _ (by omega)
  have hgd : Nat.gcd (-n).natAbs (-d).natAbs ≤ (-d).natAbs := Nat.gcd_le_right _ (by omega)
  have hg0 : ((Nat.gcd (-n).natAbs (-d).natAbs : Nat) : Int) ≠ 0 := by omega
  have hsg : sm (Nat.gcd (-n).natAbs (-d).natAbs : Nat) := sm_le hs' (by omega)
  have hl := sm_log hsg hg0
  have hw : whileLoop (evT Φ W_share_0) (exs Φ B_share_0) (F_share_0 [sI (-n), sI (-d), sI ((-n).natAbs : Nat), sI (-d)] τ) [sI (-n), sI (-d), sI ((-n).natAbs : Nat), sI (-d)] τ = .nx [sI (-n), sI (-d), sI (Nat.gcd (-n).natAbs (-d).natAbs : Nat), sI 0] τ := by
    have e : -d = ((-d).natAbs : Int) := by omega
    have := gcd_share Φ τ (sI (-n)) (sI (-d)) (F_share_0 [sI (-n), sI (-d), sI ((-n).natAbs : Nat), sI (-d)] τ) (-n).natAbs (-d).natAbs (by simp [F_share_0, fuelOf])
    rw [← e] at this
    exact this
  have e2 : (if -n < 0 then - -n else -n) = ((-n).natAbs : Int) := abs_nat (-n)
  rw [← Rat.neg_divInt_neg, low_terms hd']
  generalize hn : -n = m at *
  generalize hdd : -d = k at *
  simp [Dv.run, A_share, N_share, exs, ex, ev, evA, evT, evP, look_br, share_br, slotOf_br, h0, hd, bltD, setAll, hn, hdd, abs_nat, hw, bin_fdiv hg0 hl, okLen, shareAll]
/-! ### the law's own -/
theorem gcd_run (Φ : Orc) (a b : Int) (τ : Tp) : Dv.run Φ N_law_gcd.length A_law_gcd [.d (.int a), .d (.int b)] τ = .ok (.d (.int (Nat.gcd a.natAbs b.natAbs : Nat))) τ := by
  have hw : whileLoop (evT Φ W_law_gcd_0) (exs Φ B_law_gcd_0) (F_law_gcd_0 [sI (a.natAbs : Nat), sI (b.natAbs : Nat)] τ) [sI (a.natAbs : Nat), sI (b.natAbs : Nat)] τ = .nx [sI (Nat.gcd a.natAbs b.natAbs : Nat), sI 0] τ :=
    gcd_law Φ τ _ a.natAbs b.natAbs (by simp [F_law_gcd_0, fuelOf])
  simp [Dv.run, A_law_gcd, N_law_gcd, exs, ex, ev, evA, evT, evP, look_br, share_br, slotOf_br, bltD, setAll, abs_nat, hw]
theorem ratio_pos (Φ : Orc) (hG : ∀ a b τ, Φ "_law_gcd" [.d (.int a), .d (.int b)] τ = .ok (.d (.int (Nat.gcd a.natAbs b.natAbs : Nat))) τ) (n d : Int) (τ : Tp) (hd : 0 < d) (hs : sm d) : Dv.run Φ N_law_ratio.length A_law_ratio [.d (.int n), .d (.int d)] τ = .ok (.d (fr (Rat.divInt n d))) τ := by
  have h1 : ¬ d < 0 := by omega
  have hg : 0 < Nat.gcd n.natAbs d.natAbs := Nat.gcd_pos_of_pos_right _ (by omega)
  have hgd : Nat.gcd n.natAbs d.natAbs ≤ d.natAbs := Nat.gcd_le_right _ (by omega)
  have hg0 : ((Nat.gcd n.natAbs d.natAbs : Nat) : Int) ≠ 0 := by omega
  have hl := sm_log (sm_le hs (by omega) : sm (Nat.gcd n.natAbs d.natAbs : Nat)) hg0
  rw [low_terms hd]
  simp [Dv.run, A_law_ratio, N_law_ratio, exs, ex, ev, evA, evT, evP, look_br, share_br, slotOf_br, h1, setAll, hG, bin_fdiv hg0 hl, okLen, shareAll]
theorem ratio_neg (Φ : Orc) (hG : ∀ a b τ, Φ "_law_gcd" [.d (.int a), .d (.int b)] τ = .ok (.d (.int (Nat.gcd a.natAbs b.natAbs : Nat))) τ) (n d : Int) (τ : Tp) (hd : d < 0) (hs : sm d) : Dv.run Φ N_law_ratio.length A_law_ratio [.d (.int n), .d (.int d)] τ = .ok (.d (fr (Rat.divInt n d))) τ := by
  have hd' : 0 < -d := by omega
  have hs' : sm (-d) := sm_le hs (by omega)
  have hg : 0 < Nat.gcd (-n).natAbs (-d).natAbs := Nat.gcd_pos_of_pos_right _ (by omega)
  have hgd : Nat.gcd (-n).natAbs (-d).natAbs ≤ (-d).natAbs := Nat.gcd_le_right _ (by omega)
  have hg0 : ((Nat.gcd (-n).natAbs (-d).natAbs : Nat) : Int) ≠ 0 := by omega
  have hl := sm_log (sm_le hs' (by omega) : sm (Nat.gcd (-n).natAbs (-d).natAbs : Nat)) hg0
  rw [← Rat.neg_divInt_neg, low_terms hd']
  have e1 : (0 : Int) - n = -n := by omega
  have e2 : (0 : Int) - d = -d := by omega
  generalize hn : -n = m at *
  generalize hdd : -d = k at *
  simp [Dv.run, A_law_ratio, N_law_ratio, exs, ex, ev, evA, evT, evP, look_br, share_br, slotOf_br, hd, setAll, hG, hn, hdd, bin_fdiv hg0 hl, okLen, shareAll]
/-! ### the tape -/
/-- the tape's next cell laid in, if nothing is left -/
def takeT (τ : Tp) : Tp := match τ.cells[τ.at_.toNat]? with
  | some c => if τ.left = 0 ∧ τ.at_ < τ.cells.length then { τ with left := c, at_ := τ.at_ + 1 } else τ
  | none => τ
/-- a tape in order: n numbers may be drawn -/
structure Tk (n : Nat) (τ : Tp) : Prop where
  a0 : 0 ≤ τ.at_
  s0 : 0 ≤ τ.seed
  s1 : τ.seed < 2147483647
  z0 : 0 ≤ τ.salt
  z1 : τ.salt + n < 1000000000000
theorem Tk.mono {m n : Nat} {τ : Tp} (h : Tk n τ) (k : m ≤ n) : Tk m τ := ⟨h.a0, h.s0, h.s1, h.z0, by have := h.z1; omega⟩
theorem takeT_ok {n : Nat} {τ : Tp} (h : Tk n τ) : Tk n (takeT τ) := by
  unfold takeT
  split
  · split
    · exact ⟨by have := h.a0; show 0 ≤ τ.at_ + 1; omega, h.s0, h.s1, h.z0, h.z1⟩
    · exact h
  · exact h
def mix (τ : Tp) : Int := ((((τ.seed * 48271 + (τ.salt + 1) * 69621).fmod 2147483647) * ((τ.seed * 48271 + (τ.salt + 1) * 69621).fmod 2147483647) + (τ.salt + 1) * 40692 + 12345).fmod 2147483399)
theorem bits_of {i j : Int} (h1 : i.natAbs < 2 ^ 64) (h2 : j.natAbs < 2 ^ 64) : bitsOk i j = true :=
  sm_bits (Nat.lt_of_lt_of_le h1 (Nat.pow_le_pow_right (by decide) (by decide))) (Nat.lt_of_lt_of_le h2 (Nat.pow_le_pow_right (by decide) (by decide)))
theorem log_of {i : Int} (h1 : i.natAbs < 2 ^ 64) (h : i ≠ 0) : i.natAbs.log2 < 9000 := sm_log (Nat.lt_of_lt_of_le h1 (Nat.pow_le_pow_right (by decide) (by decide))) h
/-- what a draw gives -/
def takeV (τ : Tp) (many : Int) : Int := if 0 < (takeT τ).left then (takeT τ).left.fmod many else (mix (takeT τ)).fmod many
def takeE (τ : Tp) (many : Int) : Tp := if 0 < (takeT τ).left then { takeT τ with left := (takeT τ).left.fdiv many } else { takeT τ with salt := (takeT τ).salt + 1 }
def envT (many : Int) : Dv.Env := [some (.sh .tp), sI many, none, none]
def headT : S := (.ifS (.and_ (.cmp .eq (.tget 0 .left) (.cI 0)) (.cmp .lt (.tget 0 .at_) (.blt .len (.cons (.tget 0 .cells) .nil)))) (.cons (.tset 0 .left (.idx (.tget 0 .cells) (.tget 0 .at_)))
    (.cons (.tset 0 .at_ (.bin .add (.tget 0 .at_) (.cI 1)))
    .nil)) .nil)
theorem take_head (Φ : Orc) (many : Int) (τ : Tp) (h : 0 ≤ τ.at_) : ex Φ headT (envT many) τ = .nx (envT many) (takeT τ) := by
  by_cases h1 : τ.left = 0
  · by_cases h2 : τ.at_ < τ.cells.length
    · have h3 : τ.at_.toNat < τ.cells.length := by omega
      have h4 : atI (τ.cells.map PyData.int) τ.at_ = some (PyData.int (τ.cells[τ.at_.toNat]'h3)) := by
        have : ¬ τ.at_ < 0 := by omega
        simp [atI, ixN, h, h2, h3]
      have h5 : τ.cells[τ.at_.toNat]? = some (τ.cells[τ.at_.toNat]'h3) := List.getElem?_eq_getElem h3
      simp [headT, envT, ex, exs, ev, evA, evT, tapeGet, tapeSet, h1, h2, bltD, idxD, h4, takeT, h5]
    · simp [headT, envT, ex, exs, ev, evA, evT, tapeGet, tapeSet, h1, h2, bltD, takeT]
      cases τ.cells[τ.at_.toNat]? <;> rfl
  · simp [headT, envT, ex, exs, ev, evA, evT, tapeGet, tapeSet, h1, takeT]
    cases τ.cells[τ.at_.toNat]? <;> rfl
theorem A_take : A_law_take = .cons headT (match A_law_take with | .cons _ r => r | .nil => .nil) := rfl
theorem eq_take (Φ : Orc) (many : Int) (τ : Tp) (h : Tk 1 τ) (h0 : 0 < many) (h1 : many < 1000000000) : Dv.run Φ N_law_take.length A_law_take [.tp, .d (.int many)] τ = .ok (.d (.int (takeV τ many))) (takeE τ many) := by
  have hm : many ≠ 0 := by omega
  have K := takeT_ok h
  have e := take_head Φ many τ h.a0
  unfold takeV takeE
  generalize takeT τ = t at *
  have lg : many.natAbs.log2 < 9000 := log_of (by omega) hm
  have hz := K.z1
  have k0 := K.z0
  have k1 := K.s0
  have k2 := K.s1
  rw [A_take]
  simp only [Dv.run, N_law_take, List.map, List.length, exs]
  rw [show ([some (Sl.sh Va.tp), some (Sl.sh (Va.d (PyData.int many)))] ++ List.replicate (0 + 1 + 1 + 1 + 1 - (0 + 1 + 1)) none : Dv.Env) = envT many from rfl, e]
  simp only [seq_nx]
  by_cases hl : 0 < t.left
  · simp [A_law_take, envT, ex, exs, ev, evA, evT, evP, tapeGet, tapeSet, hl, hm, bltD, look_br, slotOf_br, share_br, bin_mod, bin_fdiv, lg]
  · have b1 : bitsOk t.seed 48271 = true := bits_of (by omega) (by decide)
    have b2 : bitsOk (t.salt + 1) 69621 = true := bits_of (by omega) (by decide)
    have b3 : bitsOk (t.salt + 1) 40692 = true := bits_of (by omega) (by decide)
    have m0 : 0 ≤ (t.seed * 48271 + (t.salt + 1) * 69621).fmod 2147483647 := Int.fmod_nonneg_of_pos _ (by decide)
    have m1 : (t.seed * 48271 + (t.salt + 1) * 69621).fmod 2147483647 < 2147483647 := Int.fmod_lt_of_pos _ (by decide)
    have b4 : bitsOk ((t.seed * 48271 + (t.salt + 1) * 69621).fmod 2147483647) ((t.seed * 48271 + (t.salt + 1) * 69621).fmod 2147483647) = true := bits_of (by omega) (by omega)
    simp [A_law_take, envT, ex, exs, ev, evA, evT, evP, tapeGet, tapeSet, hl, hm, bltD, look_br, slotOf_br, share_br, bin_mod, bin_mul, b1, b2, b3, b4, mix]
theorem takeV_lo {τ : Tp} {many : Int} (h : 0 < many) : 0 ≤ takeV τ many := by
  unfold takeV
  split <;> exact Int.fmod_nonneg_of_pos _ h
theorem takeV_hi {τ : Tp} {many : Int} (h : 0 < many) : takeV τ many < many := by
  unfold takeV
  split <;> exact Int.fmod_lt_of_pos _ h
theorem takeE_ok {n : Nat} {τ : Tp} {many : Int} (h : Tk (n + 1) τ) : Tk n (takeE τ many) := by
  have K := takeT_ok h
  unfold takeE
  split
  · exact ⟨K.a0, K.s0, K.s1, K.z0, by have := K.z1; show (takeT τ).salt + n < _; omega⟩
  · exact ⟨K.a0, K.s0, K.s1, by have := K.z0; show 0 ≤ (takeT τ).salt + 1; omega, by have := K.z1; show (takeT τ).salt + 1 + n < _; omega⟩
theorem seedOf_ok : ∀ (l : List Int) (s : Int), 0 ≤ s → s < 2147483647 → 0 ≤ seedOf s l ∧ seedOf s l < 2147483647
  | [], s, h, h2 => ⟨h, h2⟩
  | c :: l, s, _, _ => seedOf_ok l _ (Int.fmod_nonneg_of_pos _ (by decide)) (Int.fmod_lt_of_pos _ (by decide))
theorem tape0_ok (ns : List Int) : Tk 900000000000 (tape0 ns) := by
  have := seedOf_ok (ns.map absI) 7 (by decide) (by decide)
  exact ⟨Int.le_refl 0, this.1, this.2, Int.le_refl 0, by show (0 : Int) + 900000000000 < _; decide⟩
/-- a draw -/
theorem draw {Φ : Orc} (hT : Φ "_law_take" = Dv.run Φ N_law_take.length A_law_take) {n : Nat} {τ : Tp} (h : Tk (n + 1) τ) {many : Int} (h0 : 0 < many) (h1 : many < 1000000000) :
    ∃ a τ', Φ "_law_take" [.tp, .d (.int many)] τ = .ok (.d (.int a)) τ' ∧ 0 ≤ a ∧ a < many ∧ Tk n τ' :=
  ⟨_, _, by rw [hT]; exact eq_take Φ many τ (h.mono (by omega)) h0 h1, takeV_lo h0, takeV_hi h0, takeE_ok h⟩
end Fx

set_option Elab.async false
set_option linter.all false
set_option maxRecDepth 100000
set_option maxHeartbeats 1000000
/-! Dv23: what a text gives depends on the defs that it calls, alone. -/
namespace Dv
open PySem PySem.Spec PyProof.Rows L2
section
variable (L : List Str)
mutual
def cE : E → Bool
  | .var _ => true
  | .cI _ => true
  | .cB _ => true
  | .cN => true
  | .cS _ => true
  | .glo _ _ => true
  | .neg a => cE a
  | .not_ a => cE a
  | .bin _ a b => cE a && cE b
  | .cmp _ a b => cE a && cE b
  | .isN a => cE a
  | .notN a => cE a
  | .chain _ _ a b c => cE a && cE b && cE c
  | .and_ a b => cE a && cE b
  | .or_ a b => cE a && cE b
  | .ite t a b => cT t && cE a && cE b
  | .tup xs => cA xs
  | .lst xs => cA xs
  | .idx a i => cE a && cE i
  | .sli a lo hi => cE a && cO lo && cO hi
  | .call f xs => L.contains f && cA xs
  | .refused _ _ e => cE e
  | .blt _ xs => cA xs
  | .comp elt _ _ its cond _ => cE elt && cA its && cT cond
  | .tget _ _ => true
  | .pop _ => true
  | .popAt _ a => cE a
  | .p1 _ a => cE a
  | .p2 _ a b => cE a && cE b
def cT : T → Bool
  | .val e => cE e
  | .cmp _ a b => cE a && cE b
  | .isN a => cE a
  | .notN a => cE a
  | .and_ a b => cT a && cT b
  | .or_ a b => cT a && cT b
  | .not_ a => cT a
  | .chain _ _ a b c => cE a && cE b && cE c
  | .p1 _ a => cE a
  | .yes => true
def cO : O → Bool
  | .miss => true
  | .val e => cE e
def cA : Es → Bool
  | .nil => true
  | .cons e es => cE e && cA es
end
mutual
def cS : S → Bool
  | .set _ e => cE L e
  | .par _ es => cA L es
  | .unp _ e => cE L e
  | .aug _ _ e => cE L e
  | .setIx _ ix e => cE L ix && cE L e
  | .tset _ _ e => cE L e
  | .append _ e => cE L e
  | .extend _ e => cE L e
  | .expr e => cE L e
  | .ret e => cE L e
  | .retN => true
  | .raise _ => true
  | .tryRet e _ => cE L e
  | .ifS t a b => cT L t && cSs a && cSs b
  | .forS _ _ its body => cA L its && cSs body
  | .whileS _ t body => cT L t && cSs body
  | .brk => true
  | .cnt => true
  | .pass => true
def cSs : Ss → Bool
  | .nil => true
  | .cons s r => cS s && cSs r
end
end
section
variable {L : List Str} {Φ Ψ : Orc} (h : ∀ f ∈ L, Φ f = Ψ f)
include h
mutual
theorem cE_ok : ∀ (e : E), cE L e = true → ev Φ e = ev Ψ e
  | .var _, _ => by funext env τ; simp only [ev]
  | .cI _, _ => by funext env τ; simp only [ev]
  | .cB _, _ => by funext env τ; simp only [ev]
  | .cN, _ => by funext env τ; simp only [ev]
  | .cS _, _ => by funext env τ; simp only [ev]
  | .glo _ _, _ => by funext env τ; simp only [ev]
  | .neg a, c => by
    simp only [cE] at c
    funext env τ; simp only [ev, cE_ok a c]
  | .not_ a, c => by
    simp only [cE] at c
    funext env τ; simp only [ev, cE_ok a c]
  | .bin _ a b, c => by
    simp only [cE, Bool.and_eq_true] at c
    funext env τ; simp only [ev, cE_ok a c.1, cE_ok b c.2]
  | .cmp _ a b, c => by
    simp only [cE, Bool.and_eq_true] at c
    funext env τ; simp only [ev, cE_ok a c.1, cE_ok b c.2]
  | .isN a, c => by
    simp only [cE] at c
    funext env τ; simp only [ev, cE_ok a c]
  | .notN a, c => by
    simp only [cE] at c
    funext env τ; simp only [ev, cE_ok a c]
  | .chain _ _ a b d, c => by
    simp only [cE, Bool.and_eq_true] at c
    funext env τ; simp only [ev, cE_ok a c.1.1, cE_ok b c.1.2, cE_ok d c.2]
  | .and_ a b, c => by
    simp only [cE, Bool.and_eq_true] at c
    funext env τ; simp only [ev, cE_ok a c.1, cE_ok b c.2]
  | .or_ a b, c => by
    simp only [cE, Bool.and_eq_true] at c
    funext env τ; simp only [ev, cE_ok a c.1, cE_ok b c.2]
  | .ite t a b, c => by
    simp only [cE, Bool.and_eq_true] at c
    funext env τ; simp only [ev, cT_ok t c.1.1, cE_ok a c.1.2, cE_ok b c.2]
  | .tup xs, c => by
    simp only [cE] at c
    funext env τ; simp only [ev, cA_ok xs c]
  | .lst xs, c => by
    simp only [cE] at c
    funext env τ; simp only [ev, cA_ok xs c]
  | .idx a b, c => by
    simp only [cE, Bool.and_eq_true] at c
    funext env τ; simp only [ev, cE_ok a c.1, cE_ok b c.2]
  | .sli a lo hi, c => by
    simp only [cE, Bool.and_eq_true] at c
    funext env τ; simp only [ev, cE_ok a c.1.1, cO_ok lo c.1.2, cO_ok hi c.2]
  | .call f xs, c => by
    simp only [cE, Bool.and_eq_true, List.contains_iff_mem] at c
    funext env τ; simp only [ev, cA_ok xs c.2, h f c.1]
  | .refused _ _ e, c => by
    simp only [cE] at c
    funext env τ; simp only [ev, cE_ok e c]
  | .blt _ xs, c => by
    simp only [cE] at c
    funext env τ; simp only [ev, cA_ok xs c]
  | .comp elt _ _ its cond _, c => by
    simp only [cE, Bool.and_eq_true] at c
    funext env τ; simp only [ev, cE_ok elt c.1.1, cA_ok its c.1.2, cT_ok cond c.2]
  | .tget _ _, _ => by funext env τ; simp only [ev]
  | .pop _, _ => by funext env τ; simp only [ev]
  | .popAt _ a, c => by
    simp only [cE] at c
    funext env τ; simp only [ev, cE_ok a c]
  | .p1 _ a, c => by
    simp only [cE] at c
    funext env τ; simp only [ev, cE_ok a c]
  | .p2 _ a b, c => by
    simp only [cE, Bool.and_eq_true] at c
    funext env τ; simp only [ev, cE_ok a c.1, cE_ok b c.2]
theorem cT_ok : ∀ (t : T), cT L t = true → evT Φ t = evT Ψ t
  | .val e, c => by
    simp only [cT] at c
    funext env τ; simp only [evT, cE_ok e c]
  | .cmp _ a b, c => by
    simp only [cT, Bool.and_eq_true] at c
    funext env τ; simp only [evT, cE_ok a c.1, cE_ok b c.2]
  | .isN a, c => by
    simp only [cT] at c
    funext env τ; simp only [evT, cE_ok a c]
  | .notN a, c => by
    simp only [cT] at c
    funext env τ; simp only [evT, cE_ok a c]
  | .and_ a b, c => by
    simp only [cT, Bool.and_eq_true] at c
    funext env τ; simp only [evT, cT_ok a c.1, cT_ok b c.2]
  | .or_ a b, c => by
    simp only [cT, Bool.and_eq_true] at c
    funext env τ; simp only [evT, cT_ok a c.1, cT_ok b c.2]
  | .not_ a, c => by
    simp only [cT] at c
    funext env τ; simp only [evT, cT_ok a c]
  | .chain _ _ a b d, c => by
    simp only [cT, Bool.and_eq_true] at c
    funext env τ; simp only [evT, cE_ok a c.1.1, cE_ok b c.1.2, cE_ok d c.2]
  | .p1 _ a, c => by
    simp only [cT] at c
    funext env τ; simp only [evT, cE_ok a c]
  | .yes, _ => by funext env τ; simp only [evT]
theorem cO_ok : ∀ (t : O), cO L t = true → evO Φ t = evO Ψ t
  | .miss, _ => by funext env τ; simp only [evO]
  | .val e, c => by
    simp only [cO] at c
    funext env τ; simp only [evO, cE_ok e c]
theorem cA_ok : ∀ (t : Es), cA L t = true → evA Φ t = evA Ψ t
  | .nil, _ => by funext env τ; simp only [evA]
  | .cons e es, c => by
    simp only [cA, Bool.and_eq_true] at c
    funext env τ; simp only [evA, cE_ok e c.1, cA_ok es c.2]
end
theorem cP_ok : ∀ (t : Es), cA L t = true → evP Φ t = evP Ψ t
  | .nil, _ => by funext env τ; simp only [evP]
  | .cons e es, c => by
    simp only [cA, Bool.and_eq_true] at c
    funext env τ; simp only [evP, cE_ok h e c.1, cP_ok es c.2]
mutual
theorem cS_ok : ∀ (s : S), cS L s = true → ex Φ s = ex Ψ s
  | .set _ e, c => by
    simp only [cS] at c
    funext env τ; simp only [ex, cE_ok h e c]
  | .par _ es, c => by
    simp only [cS] at c
    funext env τ; simp only [ex, cP_ok h es c]
  | .unp _ e, c => by
    simp only [cS] at c
    funext env τ; simp only [ex, cE_ok h e c]
  | .aug _ _ e, c => by
    simp only [cS] at c
    funext env τ; simp only [ex, cE_ok h e c]
  | .setIx _ ix e, c => by
    simp only [cS, Bool.and_eq_true] at c
    funext env τ; simp only [ex, cE_ok h ix c.1, cE_ok h e c.2]
  | .tset _ _ e, c => by
    simp only [cS] at c
    funext env τ; simp only [ex, cE_ok h e c]
  | .append _ e, c => by
    simp only [cS] at c
    funext env τ; simp only [ex, cE_ok h e c]
  | .extend _ e, c => by
    simp only [cS] at c
    funext env τ; simp only [ex, cE_ok h e c]
  | .expr e, c => by
    simp only [cS] at c
    funext env τ; simp only [ex, cE_ok h e c]
  | .ret e, c => by
    simp only [cS] at c
    funext env τ; simp only [ex, cE_ok h e c]
  | .retN, _ => by funext env τ; simp only [ex]
  | .raise _, _ => by funext env τ; simp only [ex]
  | .tryRet e _, c => by
    simp only [cS] at c
    funext env τ; simp only [ex, cE_ok h e c]
  | .ifS t a b, c => by
    simp only [cS, Bool.and_eq_true] at c
    funext env τ; simp only [ex, cT_ok h t c.1.1, cSs_ok a c.1.2, cSs_ok b c.2]
  | .forS _ _ its body, c => by
    simp only [cS, Bool.and_eq_true] at c
    funext env τ; simp only [ex, cA_ok h its c.1, cSs_ok body c.2]
  | .whileS _ t body, c => by
    simp only [cS, Bool.and_eq_true] at c
    funext env τ; simp only [ex, cT_ok h t c.1, cSs_ok body c.2]
  | .brk, _ => by funext env τ; simp only [ex]
  | .cnt, _ => by funext env τ; simp only [ex]
  | .pass, _ => by funext env τ; simp only [ex]
theorem cSs_ok : ∀ (s : Ss), cSs L s = true → exs Φ s = exs Ψ s
  | .nil, _ => by funext env τ; simp only [exs]
  | .cons s r, c => by
    simp only [cSs, Bool.and_eq_true] at c
    funext env τ; simp only [exs, cS_ok s c.1, cSs_ok r c.2]
end
theorem run_ok (n : Nat) (s : Ss) (c : cSs L s = true) : run Φ n s = run Ψ n s := by
  funext xs τ; simp only [run, cSs_ok h s c]
end
/-! ### an oracle of a table: later rows call earlier ones -/
abbrev Tab := List (Str × Nat × Ss)
def orc : Tab → Orc
  | [] => fun _ _ _ => .stuck
  | (f, n, A) :: r => fun g => if g = f then run (orc r) n A else orc r g
/-- each row calls rows behind it alone, no name twice -/
def tabOk : Tab → Bool
  | [] => true
  | (f, _, A) :: r => cSs (r.map (·.1)) A && !(r.map (·.1)).contains f && tabOk r
theorem orc_tail {f : Str} {n : Nat} {A : Ss} {r : Tab} {g : Str} (h : g ≠ f) : orc ((f, n, A) :: r) g = orc r g := if_neg h
theorem orc_pre : ∀ {t : Tab}, tabOk t = true → ∀ {f : Str} {n : Nat} {A : Ss}, (f, n, A) ∈ t → ∃ r : Tab, cSs (r.map (·.1)) A = true ∧ orc t f = run (orc r) n A ∧ ∀ g ∈ r.map (·.1), g ∈ t.map (·.1) ∧ orc r g = orc t g
  | [], _, _, _, _, m => nomatch m
  | (f0, n0, A0) :: r, h, f, n, A, m => by
    simp only [tabOk, Bool.and_eq_true, Bool.not_eq_true', ← Bool.not_eq_true, List.contains_iff_mem] at h
    obtain ⟨⟨h1, h2⟩, h3⟩ := h
    have ag : ∀ g ∈ r.map (·.1), orc r g = orc ((f0, n0, A0) :: r) g := fun g hg => (orc_tail (fun e : g = f0 => h2 (by rw [← e]; exact hg))).symm
    rcases List.mem_cons.mp m with e | m
    · cases e
      exact ⟨r, h1, if_pos rfl, fun g hg => ⟨List.mem_cons_of_mem _ hg, ag g hg⟩⟩
    · have hf : f ∈ r.map (·.1) := List.mem_map.mpr ⟨_, m, rfl⟩
      obtain ⟨r', a, b, c⟩ := orc_pre h3 m
      exact ⟨r', a, (ag f hf).symm.trans b, fun g hg => ⟨List.mem_cons_of_mem _ (c g hg).1, (c g hg).2.trans (ag g (c g hg).1)⟩⟩
theorem orc_eq {t : Tab} (h : tabOk t = true) {f : Str} {n : Nat} {A : Ss} (m : (f, n, A) ∈ t) : orc t f = run (orc t) n A := by
  obtain ⟨r, a, b, c⟩ := orc_pre h m
  rw [b]
  exact run_ok (fun g hg => (c g hg).2) n A a
end Dv

set_option Elab.async false
set_option linter.all false
set_option maxRecDepth 100000
set_option maxHeartbeats 1000000
/-! Dv24: reckoning: comprehensions, loops, data of numbers. -/
namespace Dv
open PySem PySem.Spec PyProof.Rows L2
/-- rows of numbers -/
abbrev iL (l : List Int) : List D := l.map PyData.int
abbrev iT (l : List Int) : D := .tuple (iL l)
abbrev iR (l : List (List Int)) : List D := l.map iT
abbrev iTT (l : List (List Int)) : D := .tuple (iR l)
section
variable {Φ : Orc} {s : S} {r : Ss} {env e1 env1 : Env} {τ t1 τ1 : Tp} {v : Va} {c : Str}
theorem exs_nx (h : ex Φ s env τ = .nx e1 t1) : exs Φ (.cons s r) env τ = exs Φ r e1 t1 := by
  rw [exs, h]; rfl
theorem exs_ret (h : ex Φ s env τ = .ret v t1) : exs Φ (.cons s r) env τ = .ret v t1 := by
  rw [exs, h]; rfl
theorem exs_err (h : ex Φ s env τ = .err c t1) : exs Φ (.cons s r) env τ = .err c t1 := by
  rw [exs, h]; rfl
end
/-! ### data of numbers -/
@[simp] theorem intsD_map : ∀ (l : List Int), intsD (l.map PyData.int) = some l
  | [] => rfl
  | i :: r => by
    show (intsD (r.map PyData.int)).map _ = _
    rw [intsD_map r]; rfl
@[simp] theorem boolsD_map : ∀ (l : List Bool), boolsD (l.map PyData.bool) = some l
  | [] => rfl
  | i :: r => by
    show (boolsD (r.map PyData.bool)).map _ = _
    rw [boolsD_map r]; rfl
@[simp] theorem boolsD_map2 {α : Type} (f : α → Bool) (l : List α) : boolsD (l.map fun a => PyData.bool (f a)) = some (l.map f) := by
  rw [← boolsD_map (l.map f), List.map_map]; rfl
@[simp] theorem intsD_map2 {α : Type} (f : α → Int) (l : List α) : intsD (l.map fun a => PyData.int (f a)) = some (l.map f) := by
  rw [← intsD_map (l.map f), List.map_map]; rfl
theorem zipD_map {α β : Type} (φ : α → D) (ψ : β → D) : ∀ (xs : List α) (ys : List β), zipD (xs.map φ) (ys.map ψ) = (xs.zip ys).map fun p => PyData.tuple [φ p.1, ψ p.2]
  | [], _ => by simp [zipD]
  | _ :: _, [] => by simp [zipD]
  | x :: xs, y :: ys => by simp [zipD, zipD_map φ ψ xs ys]
theorem enumD_map {α : Type} (φ : α → D) : ∀ (n : Nat) (xs : List α), enumD n (xs.map φ) = (xs.zipIdx n).map fun p => PyData.tuple [.int (p.2 : Nat), φ p.1]
  | _, [] => by simp [enumD]
  | n, x :: xs => by simp [enumD, enumD_map φ (n + 1) xs]
theorem at_nat {α : Type} {xs : List α} {n : Nat} (h : n < xs.length) : atI xs (n : Int) = some xs[n] := by
  have h2 : (n : Int) < (xs.length : Int) := by omega
  simp [atI, ixN, h2, h]
theorem at_int {α : Type} {xs : List α} {i : Int} (h0 : 0 ≤ i) (h : i < xs.length) : atI xs i = some (xs[i.toNat]'(by omega)) := by
  have h2 : i.toNat < xs.length := by omega
  simp [atI, ixN, h0, h, h2]
theorem at_last {α : Type} {xs : List α} (h : xs ≠ []) : atI xs (-1) = some (xs.getLast h) := by
  have hl : 0 < xs.length := List.length_pos_iff.mpr h
  have e : ((-1 : Int) + xs.length).toNat = xs.length - 1 := by omega
  have h3 : -(xs.length : Int) ≤ -1 := by omega
  have h4 : xs.length - 1 < xs.length := by omega
  simp [atI, ixN, h3, e, h4, List.getLast_eq_getElem]
theorem rangeD_map (lo : Int) (n : Nat) : rangeD lo n = (List.range n).map fun i => PyData.int (lo + (i : Nat)) := rfl
theorem maxI_le {i z : Int} : ∀ {r : List Int}, maxI i r ≤ z ↔ i ≤ z ∧ ∀ a ∈ r, a ≤ z := by
  intro r
  unfold maxI
  induction r generalizing i with
  | nil => simp
  | cons a r ih =>
    simp only [List.foldl_cons, ih, List.mem_cons]
    constructor
    · rintro ⟨h1, h2⟩
      exact ⟨by omega, fun b hb => by rcases hb with rfl | hb; omega; exact h2 b hb⟩
    · rintro ⟨h1, h2⟩
      exact ⟨by have := h2 a (.inl rfl); omega, fun b hb => h2 b (.inr hb)⟩
theorem maxI_mem {i : Int} : ∀ {r : List Int}, maxI i r = i ∨ maxI i r ∈ r := by
  intro r
  unfold maxI
  induction r generalizing i with
  | nil => simp
  | cons a r ih =>
    simp only [List.foldl_cons, List.mem_cons]
    rcases ih (i := max i a) with h | h
    · rw [h]
      rcases Int.le_total i a with k | k
      · exact .inr (.inl (Int.max_eq_right k))
      · exact .inl (Int.max_eq_left k)
    · exact .inr (.inr h)
/-! ### the built-ins, one by one -/
section
variable (xs ys : List D) (i j : Int) (x y : D)
@[simp] theorem rb_len_l : bltD .len [.list xs] = some (.sh (.d (.int xs.length))) := rfl
@[simp] theorem rb_len_t : bltD .len [.tuple xs] = some (.sh (.d (.int xs.length))) := rfl
@[simp] theorem rb_abs : bltD .abs [.int i] = some (.sh (.d (.int (i.natAbs : Nat)))) := by
  show some (Rv.sh (.d (.int (if i < 0 then -i else i)))) = _
  rw [Fx.abs_nat]
@[simp] theorem rb_int : bltD .int [.int i] = some (.sh (.d (.int i))) := rfl
@[simp] theorem rb_max2 : bltD .max [.int i, .int j] = some (.sh (.d (.int (max i j)))) := by
  show some (Rv.sh (.d (.int (if j > i then j else i)))) = _
  rw [show (if j > i then j else i) = max i j by omega]
@[simp] theorem rb_min2 : bltD .min [.int i, .int j] = some (.sh (.d (.int (min i j)))) := by
  show some (Rv.sh (.d (.int (if j < i then j else i)))) = _
  rw [show (if j < i then j else i) = min i j by omega]
theorem rb_sum_l {l : List Int} (h : intsD xs = some l) : bltD .sum [.list xs] = some (.sh (.d (.int l.sum))) := by
  show Option.map _ (Option.bind (some xs) intsD) = _
  rw [Option.bind, h]; rfl
theorem rb_sum_t {l : List Int} (h : intsD xs = some l) : bltD .sum [.tuple xs] = some (.sh (.d (.int l.sum))) := rb_sum_l xs h
theorem rb_max_l {k : Int} {l : List Int} (h : intsD xs = some (k :: l)) : bltD .max [.list xs] = some (.sh (.d (.int (maxI k l)))) := by
  unfold bltD
  simp only [seqOf, Option.bind, h]
theorem rb_max_t {k : Int} {l : List Int} (h : intsD xs = some (k :: l)) : bltD .max [.tuple xs] = some (.sh (.d (.int (maxI k l)))) := by
  unfold bltD
  simp only [seqOf, Option.bind, h]
theorem rb_min_l {k : Int} {l : List Int} (h : intsD xs = some (k :: l)) : bltD .min [.list xs] = some (.sh (.d (.int (minI k l)))) := by
  unfold bltD
  simp only [seqOf, Option.bind, h]
theorem rb_min_t {k : Int} {l : List Int} (h : intsD xs = some (k :: l)) : bltD .min [.tuple xs] = some (.sh (.d (.int (minI k l)))) := by
  unfold bltD
  simp only [seqOf, Option.bind, h]
theorem rb_all {l : List Bool} (h : boolsD xs = some l) : bltD .all [.list xs] = some (.sh (.d (.bool (l.all id)))) := by
  show Option.map _ (boolsD xs) = _
  rw [h]; rfl
theorem rb_any {l : List Bool} (h : boolsD xs = some l) : bltD .any [.list xs] = some (.sh (.d (.bool (l.any id)))) := by
  show Option.map _ (boolsD xs) = _
  rw [h]; rfl
@[simp] theorem rb_tup_l : bltD .tuple [.list xs] = some (.sh (.d (.tuple xs))) := rfl
@[simp] theorem rb_tup_t : bltD .tuple [.tuple xs] = some (.sh (.d (.tuple xs))) := rfl
@[simp] theorem rb_list_l : bltD .list [.list xs] = some (.fr xs) := rfl
@[simp] theorem rb_list_t : bltD .list [.tuple xs] = some (.fr xs) := rfl
@[simp] theorem idx_t : idxD (.tuple xs) (.int i) = atI xs i := rfl
@[simp] theorem idx_l : idxD (.list xs) (.int i) = atI xs i := rfl
@[simp] theorem it_seq_l : itemsD .seq [.list xs] = some xs := rfl
@[simp] theorem it_seq_t : itemsD .seq [.tuple xs] = some xs := rfl
@[simp] theorem it_rev_l : itemsD .rev [.list xs] = some xs.reverse := rfl
@[simp] theorem it_rev_t : itemsD .rev [.tuple xs] = some xs.reverse := rfl
@[simp] theorem it_enum_l : itemsD .enum [.list xs] = some (enumD 0 xs) := rfl
@[simp] theorem it_enum_t : itemsD .enum [.tuple xs] = some (enumD 0 xs) := rfl
@[simp] theorem it_zip_tt : itemsD .zip [.tuple xs, .tuple ys] = some (zipD xs ys) := rfl
@[simp] theorem it_zip_tl : itemsD .zip [.tuple xs, .list ys] = some (zipD xs ys) := rfl
@[simp] theorem it_zip_lt : itemsD .zip [.list xs, .tuple ys] = some (zipD xs ys) := rfl
@[simp] theorem it_zip_ll : itemsD .zip [.list xs, .list ys] = some (zipD xs ys) := rfl
theorem it_range1 (h : small62 i = true) : itemsD .range1 [.int i] = some (rangeD 0 i.toNat) := if_pos h
theorem it_range2 (h : (small62 i && small62 j) = true) : itemsD .range2 [.int i, .int j] = some (rangeD i (j - i).toNat) := if_pos h
theorem small62_of (h0 : -1000000000 ≤ i) (h1 : i ≤ 1000000000) : small62 i = true := by
  rw [small62_eq]
  simp; omega
@[simp] theorem add_tt (h : xs.length + ys.length ≤ 100000) : binD .add (.tuple xs) (.tuple ys) = some (.sh (.d (.tuple (xs ++ ys)))) := if_pos (decide_eq_true h)
@[simp] theorem add_ll (h : xs.length + ys.length ≤ 100000) : binD .add (.list xs) (.list ys) = some (.fr (xs ++ ys)) := if_pos (decide_eq_true h)
@[simp] theorem isNone_int : isNone (.int i) = false := rfl
@[simp] theorem isNone_none : isNone .none = true := rfl
@[simp] theorem isNone_t : isNone (.tuple xs) = false := rfl
@[simp] theorem truth_l : truthD (.list xs) = some (!xs.isEmpty) := rfl
@[simp] theorem truth_t : truthD (.tuple xs) = some (!xs.isEmpty) := rfl
@[simp] theorem truth_n : truthD .none = some false := rfl
@[simp] theorem okLen_iff (n : Nat) : okLen n = decide (n ≤ 100000) := rfl
end
/-! a step of reckoning: the language's own rules -/
/-! ### slices -/
section
variable (xs : List D) (a b : Nat)
theorem cut_init : Dv.cutD xs none (some (-1)) = xs.dropLast := by
  have e : min xs.length xs.length = xs.length := Nat.min_self _
  simp only [Dv.cutD, HT.sIx, List.drop_zero, List.dropLast_eq_take]
  congr 1
  all_goals (simp)
  all_goals (try omega)
theorem cut_tail : Dv.cutD xs (some 1) none = xs.tail := by
  cases xs with
  | nil => rfl
  | cons x r => simp [Dv.cutD, HT.sIx]
theorem cut_to : Dv.cutD xs none (some (a : Int)) = xs.take a := by
  have h : ¬ (a : Int) < 0 := by omega
  simp [Dv.cutD, HT.sIx, h]
theorem cut_from : Dv.cutD xs (some (a : Int)) none = xs.drop a := by
  have h : ¬ (a : Int) < 0 := by omega
  simp [Dv.cutD, HT.sIx, h]
  rcases Nat.le_total a xs.length with k | k
  · rw [Nat.min_eq_left k, List.take_of_length_le (by simp)]
  · rw [Nat.min_eq_right k, List.drop_eq_nil_of_le k]; simp
theorem cut_mid (hb : b ≤ xs.length) (ha : a ≤ b) : Dv.cutD xs (some (a : Int)) (some (b : Int)) = (xs.drop a).take (b - a) := by
  have h : ¬ (a : Int) < 0 := by omega
  have h2 : ¬ (b : Int) < 0 := by omega
  simp [Dv.cutD, HT.sIx, h, h2]
  rw [Nat.min_eq_left hb, Nat.min_eq_left (by omega)]
@[simp] theorem sli_t (lo hi : Option Int) : sliD (.tuple xs) lo hi = some (.sh (.d (.tuple (Dv.cutD xs lo hi)))) := rfl
@[simp] theorem sli_l (lo hi : Option Int) : sliD (.list xs) lo hi = some (.fr (Dv.cutD xs lo hi)) := rfl
end
/-! ### shapes -/
/-- no dict within, at most k deep -/
def Lay (k : Nat) (x : D) : Prop := x.canLay0 = true ∧ x.depth ≤ k
theorem Lay.shaped {k : Nat} {x : D} (h : Lay k x) (hk : k ≤ 64) : SeqAt.shaped x = true := by
  unfold SeqAt.shaped
  rw [h.1]
  simp; exact Nat.le_trans h.2 hk
theorem Lay.mono {k m : Nat} {x : D} (h : Lay k x) (hk : k ≤ m) : Lay m x := ⟨h.1, Nat.le_trans h.2 hk⟩
theorem lay_int (i : Int) : Lay 1 (.int i) := ⟨rfl, by simp [PyData.depth]⟩
theorem lay_none : Lay 1 .none := ⟨rfl, by simp [PyData.depth]⟩
theorem lay_bool (i : Bool) : Lay 1 (.bool i) := ⟨rfl, by simp [PyData.depth]⟩
theorem canLayAll_of : ∀ {l : List D}, (∀ x ∈ l, x.canLay0 = true) → PyData.canLayAll0 l = true
  | [], _ => rfl
  | x :: l, h => by
    simp only [PyData.canLayAll0, Bool.and_eq_true]
    exact ⟨h x (by simp), canLayAll_of fun y hy => h y (by simp [hy])⟩
theorem depthAll_of {k : Nat} : ∀ {l : List D}, (∀ x ∈ l, x.depth ≤ k) → PyData.depthAll l ≤ k
  | [], _ => by simp [PyData.depthAll]
  | x :: l, h => by
    simp only [PyData.depthAll]
    exact Nat.max_le.mpr ⟨h x (by simp), depthAll_of fun y hy => h y (by simp [hy])⟩
theorem lay_tuple {k : Nat} {l : List D} (h : ∀ x ∈ l, Lay k x) : Lay (k + 1) (.tuple l) :=
  ⟨by simpa [PyData.canLay0] using canLayAll_of fun x hx => (h x hx).1, by
    have := depthAll_of fun x hx => (h x hx).2
    simp only [PyData.depth]; omega⟩
theorem lay_list {k : Nat} {l : List D} (h : ∀ x ∈ l, Lay k x) : Lay (k + 1) (.list l) :=
  ⟨by simpa [PyData.canLay0] using canLayAll_of fun x hx => (h x hx).1, by
    have := depthAll_of fun x hx => (h x hx).2
    simp only [PyData.depth]; omega⟩
theorem lay_ints (l : List Int) : ∀ x ∈ l.map PyData.int, Lay 1 x := fun x hx => by
  obtain ⟨i, _, rfl⟩ := List.mem_map.mp hx
  exact lay_int i
theorem lay_iT (l : List Int) : Lay 2 (iT l) := lay_tuple (lay_ints l)
theorem lay_iTT (l : List (List Int)) : Lay 3 (iTT l) := lay_tuple fun x hx => by
  obtain ⟨i, _, rfl⟩ := List.mem_map.mp hx
  exact lay_iT i
theorem lay_fr (q : Rat) : Lay 2 (Fx.fr q) := lay_tuple fun x hx => by
  simp at hx
  rcases hx with rfl | rfl <;> exact lay_int _
mutual
theorem eqv_refl : ∀ (x : D), x.canLay0 = true → PyData.eqv x x = true
  | .none, _ => by simp [PyData.eqv]
  | .bool b, _ => by simp [PyData.eqv]
  | .int i, _ => by simp [PyData.eqv]
  | .str s, _ => by simp [PyData.eqv]
  | .list l, h => by
    simp only [PyData.canLay0] at h
    simp [PyData.eqv, eqvs_refl l h]
  | .tuple l, h => by
    simp only [PyData.canLay0] at h
    simp [PyData.eqv, eqvs_refl l h]
  | .dict _, h => by simp [PyData.canLay0] at h
theorem eqvs_refl : ∀ (l : List D), PyData.canLayAll0 l = true → PyData.eqvAll l l = true
  | [], _ => by simp [PyData.eqvAll]
  | x :: l, h => by
    simp only [PyData.canLayAll0, Bool.and_eq_true] at h
    simp [PyData.eqvAll, eqv_refl x h.1, eqvs_refl l h.2]
end
theorem cmp_eq_self {k : Nat} {x : D} (h : Lay k x) (hk : k ≤ 64) : cmpD .eq x x = some true := by
  simp [cmpD, h.shaped hk, eqv_refl x h.1]
theorem cmp_ne_self {k : Nat} {x : D} (h : Lay k x) (hk : k ≤ 64) : cmpD .ne x x = some false := by
  simp [cmpD, h.shaped hk, eqv_refl x h.1]
/-! ### comprehensions -/
section
variable {Φ : Orc} {env env1 : Env} {τ τ1 : Tp}
theorem comp_loop {α : Type} {φ : α → D} {p : α → Bool} {g : α → D} {envs : α → Env} {tg : Tg} {vs : List Nat} {fe : Env → Tp → R Rv} {ft : Env → Tp → R Bool} :
    ∀ (l : List α) (acc : List D) (env : Env), (∀ a ∈ l, setTg tg (φ a) (wipeE env1 vs) = some (envs a)) → (∀ a ∈ l, wipeE (envs a) vs = wipeE env1 vs) → (∀ a ∈ l, ft (envs a) τ = .ok (p a) (envs a) τ) →
    (∀ a ∈ l, p a = true → ∃ rv, fe (envs a) τ = .ok rv (envs a) τ ∧ share (envs a) rv = some (.d (g a), envs a)) → wipeE env vs = wipeE env1 vs →
    ∃ e2, compLoop fe ft tg vs (l.map φ) acc env τ = .ok (acc ++ (l.filter p).map g) e2 τ ∧ (e2 = env ∨ ∃ a ∈ l, e2 = envs a)
  | [], acc, env, _, _, _, _, _ => ⟨env, by simp [compLoop], .inl rfl⟩
  | a :: l, acc, env, hs, hw, ht, he, h0 => by
    have ma : a ∈ a :: l := List.mem_cons_self
    have go : ∀ acc' , ∃ e2, compLoop fe ft tg vs (l.map φ) acc' (envs a) τ = .ok (acc' ++ (l.filter p).map g) e2 τ ∧ (e2 = env ∨ ∃ b ∈ a :: l, e2 = envs b) := fun acc' => by
      obtain ⟨e2, h1, h2⟩ := comp_loop l acc' (envs a) (fun b hb => hs b (List.mem_cons_of_mem _ hb)) (fun b hb => hw b (List.mem_cons_of_mem _ hb)) (fun b hb => ht b (List.mem_cons_of_mem _ hb)) (fun b hb => he b (List.mem_cons_of_mem _ hb)) (hw a ma)
      refine ⟨e2, h1, .inr ?_⟩
      rcases h2 with h2 | ⟨b, hb, h2⟩
      · exact ⟨a, ma, h2⟩
      · exact ⟨b, List.mem_cons_of_mem _ hb, h2⟩
    rw [List.map_cons, compLoop, h0, hs a ma]
    dsimp only
    rw [ht a ma]
    cases hp : p a with
    | false =>
      obtain ⟨e2, h1, h2⟩ := go acc
      exact ⟨e2, by dsimp only; rw [h1]; simp [List.filter, hp], h2⟩
    | true =>
      obtain ⟨rv, e1, e2⟩ := he a ma hp
      dsimp only
      rw [e1]
      dsimp only
      rw [e2]
      obtain ⟨e2, h1, h2⟩ := go (acc ++ [g a])
      exact ⟨e2, by dsimp only; rw [h1]; simp [List.filter, hp], h2⟩
/-- a comprehension whose parts change nothing -/
theorem comp_pure {α : Type} {φ : α → D} {p : α → Bool} {g : α → D} {envs : α → Env} {elt : E} {tg : Tg} {ik : IK} {its : Es} {cond : T} {own : List (Str × Nat)} {l : List α}
    (hit : evI Φ ik its env τ = .ok (l.map φ) env1 τ1) (hno : noOwn env1 (own.map (·.2)) = true) (hl : l.length ≤ 100000) (hset : ∀ a ∈ l, setTg tg (φ a) (wipeE env1 (own.map (·.2))) = some (envs a))
    (hw : ∀ a ∈ l, wipeE (envs a) (own.map (·.2)) = wipeE env1 (own.map (·.2))) (hb0 : backE env1 env1 (own.map (·.2)) = env1) (hb : ∀ a ∈ l, backE env1 (envs a) (own.map (·.2)) = env1)
    (ht : ∀ a ∈ l, evT Φ cond (envs a) τ1 = .ok (p a) (envs a) τ1) (he : ∀ a ∈ l, p a = true → ∃ rv, ev Φ elt (envs a) τ1 = .ok rv (envs a) τ1 ∧ share (envs a) rv = some (.d (g a), envs a)) :
    ev Φ (.comp elt tg ik its cond own) env τ = .ok (.fr ((l.filter p).map g)) env1 τ1 := by
  rw [comp_evI, hit]
  simp only [bind_r, hno, okLen, List.length_map, hl, decide_true, Bool.and_self, if_true]
  obtain ⟨e2, h1, h2⟩ := comp_loop (fe := ev Φ elt) (ft := evT Φ cond) (tg := tg) l [] env1 hset hw ht he rfl
  rw [h1]
  simp only [bind_r, List.nil_append]
  rcases h2 with rfl | ⟨a, ha, rfl⟩
  · rw [hb0]
  · rw [hb a ha]
/-- without a condition -/
theorem comp_map {α : Type} {φ : α → D} {g : α → D} {envs : α → Env} {elt : E} {tg : Tg} {ik : IK} {its : Es} {own : List (Str × Nat)} {l : List α}
    (hit : evI Φ ik its env τ = .ok (l.map φ) env1 τ1) (hno : noOwn env1 (own.map (·.2)) = true) (hl : l.length ≤ 100000) (hset : ∀ a ∈ l, setTg tg (φ a) (wipeE env1 (own.map (·.2))) = some (envs a))
    (hw : ∀ a ∈ l, wipeE (envs a) (own.map (·.2)) = wipeE env1 (own.map (·.2))) (hb0 : backE env1 env1 (own.map (·.2)) = env1) (hb : ∀ a ∈ l, backE env1 (envs a) (own.map (·.2)) = env1)
    (he : ∀ a ∈ l, ∃ rv, ev Φ elt (envs a) τ1 = .ok rv (envs a) τ1 ∧ share (envs a) rv = some (.d (g a), envs a)) :
    ev Φ (.comp elt tg ik its .yes own) env τ = .ok (.fr (l.map g)) env1 τ1 := by
  have := comp_pure (p := fun _ => true) hit hno hl hset hw hb0 hb (cond := .yes) (fun a _ => by simp [evT]) fun a ha _ => he a ha
  rw [this, show l.filter (fun _ => true) = l from List.filter_eq_self.mpr (by simp)]
theorem comp_drawL {α β : Type} {φ : α → D} {g : β → D} {Q : β → Prop} {k : Nat} {envs : α → Env} {tg : Tg} {vs : List Nat} {fe : Env → Tp → R Rv} :
    ∀ (l : List α) (acc : List D) (env : Env) (n : Nat) (τ : Tp), Fx.Tk (n + l.length * k) τ → (∀ a ∈ l, setTg tg (φ a) (wipeE env1 vs) = some (envs a)) → (∀ a ∈ l, wipeE (envs a) vs = wipeE env1 vs) →
    (∀ a ∈ l, ∀ n τ, Fx.Tk (n + k) τ → ∃ y rv τ', fe (envs a) τ = .ok rv (envs a) τ' ∧ share (envs a) rv = some (.d (g y), envs a) ∧ Q y ∧ Fx.Tk n τ') → wipeE env vs = wipeE env1 vs →
    ∃ (ys : List β) (e2 : Env) (τ' : Tp), compLoop fe (evT Φ .yes) tg vs (l.map φ) acc env τ = .ok (acc ++ ys.map g) e2 τ' ∧ (e2 = env ∨ ∃ a ∈ l, e2 = envs a) ∧ (ys.length = l.length ∧ ∀ y ∈ ys, Q y) ∧ Fx.Tk n τ'
  | [], acc, env, n, τ, h, _, _, _, _ => ⟨[], env, τ, by simp [compLoop], .inl rfl, ⟨rfl, by simp⟩, h.mono (by omega)⟩
  | a :: l, acc, env, n, τ, h, hs, hw, he, h0 => by
    have ma : a ∈ a :: l := List.mem_cons_self
    obtain ⟨y, rv, τ1, e1, e2, q, h1⟩ := he a ma (n + l.length * k) τ (h.mono (by rw [List.length_cons, Nat.add_mul, Nat.one_mul]; omega))
    obtain ⟨ys, e3, τ3, h3, h4, h5, h6⟩ := comp_drawL l (acc ++ [g y]) (envs a) n τ1 h1 (fun b hb => hs b (List.mem_cons_of_mem _ hb)) (fun b hb => hw b (List.mem_cons_of_mem _ hb)) (fun b hb => he b (List.mem_cons_of_mem _ hb)) (hw a ma)
    refine ⟨y :: ys, e3, τ3, ?_, .inr ?_, ⟨by simp [h5.1], fun z hz => by
      rcases List.mem_cons.mp hz with rfl | hz
      · exact q
      · exact h5.2 z hz⟩, h6⟩
    · have ty : ∀ e, evT Φ .yes e τ = .ok true e τ := fun e => by simp only [evT]
      rw [List.map_cons, compLoop, h0, hs a ma]
      dsimp only
      rw [ty]
      dsimp only
      rw [e1]
      dsimp only
      rw [e2]
      dsimp only
      rw [h3]
      simp
    · rcases h4 with h4 | ⟨b, hb, h4⟩
      · exact ⟨a, ma, h4⟩
      · exact ⟨b, List.mem_cons_of_mem _ hb, h4⟩
/-- a comprehension that draws from the tape -/
theorem comp_draw {α β : Type} {φ : α → D} {g : β → D} {Q : β → Prop} {k : Nat} {envs : α → Env} {elt : E} {tg : Tg} {ik : IK} {its : Es} {own : List (Str × Nat)} {l : List α} {n : Nat}
    (hit : evI Φ ik its env τ = .ok (l.map φ) env1 τ1) (hT : Fx.Tk (n + l.length * k) τ1) (hno : noOwn env1 (own.map (·.2)) = true) (hl : l.length ≤ 100000) (hset : ∀ a ∈ l, setTg tg (φ a) (wipeE env1 (own.map (·.2))) = some (envs a))
    (hw : ∀ a ∈ l, wipeE (envs a) (own.map (·.2)) = wipeE env1 (own.map (·.2))) (hb0 : backE env1 env1 (own.map (·.2)) = env1) (hb : ∀ a ∈ l, backE env1 (envs a) (own.map (·.2)) = env1)
    (he : ∀ a ∈ l, ∀ n τ, Fx.Tk (n + k) τ → ∃ y rv τ', ev Φ elt (envs a) τ = .ok rv (envs a) τ' ∧ share (envs a) rv = some (.d (g y), envs a) ∧ Q y ∧ Fx.Tk n τ') :
    ∃ (ys : List β) (τ' : Tp), ev Φ (.comp elt tg ik its .yes own) env τ = .ok (.fr (ys.map g)) env1 τ' ∧ (ys.length = l.length ∧ ∀ y ∈ ys, Q y) ∧ Fx.Tk n τ' := by
  rw [comp_evI, hit]
  simp only [bind_r, hno, okLen, List.length_map, hl, decide_true, Bool.and_self, if_true]
  obtain ⟨ys, e2, τ', h1, h2, h3, h4⟩ := comp_drawL (Φ := Φ) (fe := ev Φ elt) (tg := tg) l [] env1 n τ1 hT hset hw he rfl
  refine ⟨ys, τ', ?_, h3, h4⟩
  rw [h1]
  simp only [bind_r, List.nil_append]
  rcases h2 with rfl | ⟨a, ha, rfl⟩
  · rw [hb0]
  · rw [hb a ha]
end
/-! ### loops -/
theorem for_rel {α : Type} {φ : α → D} {f : Env → Tp → SR} {tg : Tg} (P : Nat → Env → Tp → Prop) : ∀ (l : List α) (k : Nat) (env : Env) (τ : Tp), P k env τ →
    (∀ i (hi : i < l.length) env τ, P (k + i) env τ → ∃ e1, setTg tg (φ l[i]) env = some e1 ∧ ∃ e2 t2, f e1 τ = .nx e2 t2 ∧ P (k + i + 1) e2 t2) → ∃ e t, forLoop f tg (l.map φ) env τ = .nx e t ∧ P (k + l.length) e t
  | [], k, env, τ, h, _ => ⟨env, τ, rfl, h⟩
  | a :: l, k, env, τ, h, st => by
    obtain ⟨e1, h1, e2, t2, h2, h3⟩ := st 0 (by simp) env τ h
    obtain ⟨e, t, h4, h5⟩ := for_rel P l (k + 1) e2 t2 h3 fun i hi env τ hp => by
      have := st (i + 1) (by simpa using hi) env τ (by rw [show k + (i + 1) = k + 1 + i by omega]; exact hp)
      rw [show k + (i + 1) + 1 = k + 1 + i + 1 by omega] at this
      exact this
    refine ⟨e, t, ?_, by rw [List.length_cons, show k + (l.length + 1) = k + 1 + l.length by omega]; exact h5⟩
    rw [List.map_cons, forLoop, show φ a = φ (a :: l)[0] from rfl, h1]
    dsimp only
    rw [h2]
    exact h4
theorem for_P {α : Type} {φ : α → D} {f : Env → Tp → SR} {tg : Tg} (P : Nat → Env → Tp → Prop) {l : List α} {env : Env} {τ : Tp} (h : P 0 env τ)
    (st : ∀ i (hi : i < l.length) env τ, P i env τ → ∃ e1, setTg tg (φ l[i]) env = some e1 ∧ ∃ e2 t2, f e1 τ = .nx e2 t2 ∧ P (i + 1) e2 t2) : ∃ e t, forLoop f tg (l.map φ) env τ = .nx e t ∧ P l.length e t := by
  have := for_rel (φ := φ) (f := f) (tg := tg) P l 0 env τ h (by simpa using st)
  simpa using this
end Dv

set_option Elab.async false
set_option linter.all false
set_option maxRecDepth 100000
set_option maxHeartbeats 1000000
/-! Dv25: fractions: what the defs give. -/
namespace Fx
open PySem PySem.Spec PyProof.Rows L2 Dv
/-- n and d of at most k bits -/
def Sm (k : Nat) (q : Rat) : Prop := q.num.natAbs < 2 ^ k ∧ q.den < 2 ^ k
theorem Sm.mono {k m : Nat} {q : Rat} (h : Sm k q) (hk : k ≤ m) : Sm m q :=
  ⟨Nat.lt_of_lt_of_le h.1 (Nat.pow_le_pow_right (by decide) hk), Nat.lt_of_lt_of_le h.2 (Nat.pow_le_pow_right (by decide) hk)⟩
theorem num_le {n d : Int} (h : d ≠ 0) : (Rat.divInt n d).num.natAbs ≤ n.natAbs := by
  rw [Rat.num_divInt]
  have hg : (0 : Int) < (d.gcd n : Nat) := by
    have : 0 < d.gcd n := Int.gcd_pos_of_ne_zero_left _ h
    omega
  have e : (d.sign * n).natAbs = n.natAbs := by
    rcases Int.lt_or_gt_of_ne h with h | h
    · rw [Int.sign_eq_neg_one_of_neg h]; omega
    · rw [Int.sign_eq_one_of_pos h]; omega
  have k := Int.natAbs_ediv_le_natAbs (d.sign * n) (d.gcd n : Nat)
  omega
theorem den_le {n d : Int} (h : d ≠ 0) : (Rat.divInt n d).den ≤ d.natAbs := by
  rw [Rat.den_divInt, if_neg h]
  exact Nat.div_le_self _ _
theorem mul_lt {a b k m : Nat} (h1 : a < 2 ^ k) (h2 : b < 2 ^ m) : a * b < 2 ^ (k + m) := by
  rw [Nat.pow_add]
  exact Nat.mul_lt_mul'' h1 h2
theorem Sm.divInt {k : Nat} {n d : Int} (h1 : n.natAbs < 2 ^ k) (h2 : d.natAbs < 2 ^ k) (h : d ≠ 0) : Sm k (Rat.divInt n d) :=
  ⟨Nat.lt_of_le_of_lt (num_le h) h1, Nat.lt_of_le_of_lt (den_le h) h2⟩
theorem mul_eq (p q : Rat) : p * q = Rat.divInt (p.num * q.num) (p.den * q.den) := by
  rw [Rat.mul_def', ← Rat.divInt_ofNat]
  simp
theorem add_eq (p q : Rat) : p + q = Rat.divInt (p.num * q.den + q.num * p.den) (p.den * q.den) := by
  rw [Rat.add_def', ← Rat.divInt_ofNat]
  simp
theorem sub_eq (p q : Rat) : p - q = Rat.divInt (p.num * q.den - q.num * p.den) (p.den * q.den) := by
  rw [Rat.sub_def', ← Rat.divInt_ofNat]
  simp
theorem div_eq (p q : Rat) : p / q = Rat.divInt (p.num * q.den) (p.den * q.num) := by
  rw [Rat.div_def, Rat.inv_def]
  conv => lhs; rw [← Rat.num_divInt_den p]
  rw [Rat.divInt_mul_divInt]
theorem dd_ne (p q : Rat) : ((p.den : Int) * q.den) ≠ 0 := Int.mul_ne_zero (by have := p.den_nz; omega) (by have := q.den_nz; omega)
theorem dd_lt {k m : Nat} {p q : Rat} (h1 : Sm k p) (h2 : Sm m q) : ((p.den : Int) * q.den).natAbs < 2 ^ (k + m) := by
  rw [Int.natAbs_mul]; exact mul_lt h1.2 h2.2
theorem nd_lt {k m : Nat} {p q : Rat} (h1 : Sm k p) (h2 : Sm m q) : (p.num * q.den).natAbs < 2 ^ (k + m) := by
  rw [Int.natAbs_mul]; exact mul_lt h1.1 h2.2
theorem nn_lt {k m : Nat} {p q : Rat} (h1 : Sm k p) (h2 : Sm m q) : (p.num * q.num).natAbs < 2 ^ (k + m) := by
  rw [Int.natAbs_mul]; exact mul_lt h1.1 h2.1
theorem Sm.mul {k m : Nat} {p q : Rat} (h1 : Sm k p) (h2 : Sm m q) : Sm (k + m) (p * q) := by
  rw [mul_eq]; exact Sm.divInt (nn_lt h1 h2) (dd_lt h1 h2) (dd_ne p q)
theorem Sm.add {k m : Nat} {p q : Rat} (h1 : Sm k p) (h2 : Sm m q) : Sm (k + m + 1) (p + q) := by
  rw [add_eq]
  have a := nd_lt h1 h2
  have b := nd_lt h2 h1
  rw [Nat.add_comm m k] at b
  exact Sm.divInt (by rw [Nat.pow_succ]; omega) (Nat.lt_of_lt_of_le (dd_lt h1 h2) (Nat.pow_le_pow_right (by decide) (by omega))) (dd_ne p q)
theorem Sm.sub {k m : Nat} {p q : Rat} (h1 : Sm k p) (h2 : Sm m q) : Sm (k + m + 1) (p - q) := by
  rw [sub_eq]
  have a := nd_lt h1 h2
  have b := nd_lt h2 h1
  rw [Nat.add_comm m k] at b
  exact Sm.divInt (by rw [Nat.pow_succ]; omega) (Nat.lt_of_lt_of_le (dd_lt h1 h2) (Nat.pow_le_pow_right (by decide) (by omega))) (dd_ne p q)
theorem dn_ne (p : Rat) {q : Rat} (h : q ≠ 0) : ((p.den : Int) * q.num) ≠ 0 := Int.mul_ne_zero (by have := p.den_nz; omega) (by intro e; exact h (Rat.num_eq_zero.mp e))
theorem Sm.div {k m : Nat} {p q : Rat} (h1 : Sm k p) (h2 : Sm m q) (h : q ≠ 0) : Sm (k + m) (p / q) := by
  rw [div_eq]
  exact Sm.divInt (nd_lt h1 h2) (by rw [Int.natAbs_mul]; exact mul_lt h1.2 h2.1) (dn_ne p h)
theorem Sm.int {k : Nat} {i : Int} (h : i.natAbs < 2 ^ k) (hk : 0 < k) : Sm k (i : Rat) := by
  refine ⟨by rw [Rat.num_intCast]; exact h, ?_⟩
  rw [Rat.den_intCast]
  exact Nat.one_lt_two_pow (by omega)
theorem Sm.neg {k : Nat} {q : Rat} (h : Sm k q) : Sm k (-q) := ⟨by rw [Rat.neg_num]; simpa using h.1, by rw [Rat.neg_den]; exact h.2⟩
theorem sm_of {k : Nat} {i : Int} (h : i.natAbs < 2 ^ k) (hk : k ≤ 4000) : sm i := Nat.lt_of_lt_of_le h (Nat.pow_le_pow_right (by decide) hk)
theorem bits_k {k m : Nat} {i j : Int} (h1 : i.natAbs < 2 ^ k) (h2 : j.natAbs < 2 ^ m) (h : k ≤ 4000) (h' : m ≤ 4000) : bitsOk i j = true := sm_bits (sm_of h1 h) (sm_of h2 h')
theorem fr_int (i : Int) : PyData.tuple [.int i, .int 1] = fr (i : Rat) := by
  unfold fr
  rw [Rat.num_intCast, Rat.den_intCast]; rfl
section
variable {Φ : Orc}
theorem share_sp (hS : Φ "share" = Dv.run Φ N_share.length A_share) {n d : Int} (hd : d ≠ 0) (hs : sm d) (τ : Tp) : Φ "share" [.d (.int n), .d (.int d)] τ = .ok (.d (fr (Rat.divInt n d))) τ := by
  rw [hS]
  rcases Int.lt_or_gt_of_ne hd with hd | hd
  · exact share_neg Φ n d τ hd hs
  · exact share_pos Φ n d τ hd hs
theorem ratio_sp (hR : Φ "_law_ratio" = Dv.run Φ N_law_ratio.length A_law_ratio) (hG : Φ "_law_gcd" = Dv.run Φ N_law_gcd.length A_law_gcd) {n d : Int} (hd : d ≠ 0) (hs : sm d) (τ : Tp) : Φ "_law_ratio" [.d (.int n), .d (.int d)] τ = .ok (.d (fr (Rat.divInt n d))) τ := by
  rw [hR]
  have g : ∀ a b τ, Φ "_law_gcd" [.d (.int a), .d (.int b)] τ = .ok (.d (.int (Nat.gcd a.natAbs b.natAbs : Nat))) τ := fun a b τ => by rw [hG]; exact gcd_run Φ a b τ
  rcases Int.lt_or_gt_of_ne hd with hd | hd
  · exact ratio_neg Φ g n d τ hd hs
  · exact ratio_pos Φ g n d τ hd hs
/-- f makes the fraction of two numbers -/
def Makes (Φ : Orc) (f : Str) : Prop := ∀ n d τ, d ≠ 0 → sm d → Φ f [.d (.int n), .d (.int d)] τ = .ok (.d (fr (Rat.divInt n d))) τ
theorem at0 (p : Rat) : atI [PyData.int p.num, PyData.int (p.den : Nat)] 0 = some (.int p.num) := rfl
theorem at1 (p : Rat) : atI [PyData.int p.num, PyData.int (p.den : Nat)] 1 = some (.int (p.den : Nat)) := rfl
theorem mul_run {f : Str} (h : Makes Φ f) {k m : Nat} {p q : Rat} (h1 : Sm k p) (h2 : Sm m q) (hk : k + m ≤ 4000) (τ : Tp) :
    Dv.run Φ 2 (.cons (.ret (.call f (.cons (.bin .mul (.idx (.var 0) (.cI 0)) (.idx (.var 1) (.cI 0))) (.cons (.bin .mul (.idx (.var 0) (.cI 1)) (.idx (.var 1) (.cI 1))) .nil)))) .nil) [.d (fr p), .d (fr q)] τ = .ok (.d (fr (p * q))) τ := by
  have b1 := bits_k h1.1 h2.1 (by omega) (by omega)
  have b2 : bitsOk (p.den : Nat) (q.den : Nat) = true := bits_k (i := (p.den : Nat)) (j := (q.den : Nat)) (by simpa using h1.2) (by simpa using h2.2) (by omega) (by omega)
  rw [mul_eq]
  have e := h (p.num * q.num) (p.den * q.den) τ (dd_ne p q) (sm_of (dd_lt h1 h2) hk)
  simp [exs, ex, ev, evA, evT, evP, evO, evI, look_br, look_own, share_br, slotOf_br, setAll, shareAll, Dv.run, fr, at0, at1, bin_mul, b1, b2, e]
theorem add_run {f : Str} (h : Makes Φ f) {k m : Nat} {p q : Rat} (h1 : Sm k p) (h2 : Sm m q) (hk : k + m ≤ 4000) (τ : Tp) :
    Dv.run Φ 2 (.cons (.ret (.call f (.cons (.bin .add (.bin .mul (.idx (.var 0) (.cI 0)) (.idx (.var 1) (.cI 1))) (.bin .mul (.idx (.var 1) (.cI 0)) (.idx (.var 0) (.cI 1)))) (.cons (.bin .mul (.idx (.var 0) (.cI 1)) (.idx (.var 1) (.cI 1))) .nil)))) .nil) [.d (fr p), .d (fr q)] τ = .ok (.d (fr (p + q))) τ := by
  have b1 : bitsOk p.num (q.den : Nat) = true := bits_k h1.1 (j := (q.den : Nat)) (by simpa using h2.2) (by omega) (by omega)
  have b3 : bitsOk q.num (p.den : Nat) = true := bits_k h2.1 (j := (p.den : Nat)) (by simpa using h1.2) (by omega) (by omega)
  have b2 : bitsOk (p.den : Nat) (q.den : Nat) = true := bits_k (i := (p.den : Nat)) (j := (q.den : Nat)) (by simpa using h1.2) (by simpa using h2.2) (by omega) (by omega)
  rw [add_eq]
  have e := h (p.num * q.den + q.num * p.den) (p.den * q.den) τ (dd_ne p q) (sm_of (dd_lt h1 h2) hk)
  simp [exs, ex, ev, evA, evT, evP, evO, evI, look_br, look_own, share_br, slotOf_br, setAll, shareAll, Dv.run, fr, at0, at1, bin_mul, b1, b2, b3, e]
theorem sub_run {f : Str} (h : Makes Φ f) {k m : Nat} {p q : Rat} (h1 : Sm k p) (h2 : Sm m q) (hk : k + m ≤ 4000) (τ : Tp) :
    Dv.run Φ 2 (.cons (.ret (.call f (.cons (.bin .sub (.bin .mul (.idx (.var 0) (.cI 0)) (.idx (.var 1) (.cI 1))) (.bin .mul (.idx (.var 1) (.cI 0)) (.idx (.var 0) (.cI 1)))) (.cons (.bin .mul (.idx (.var 0) (.cI 1)) (.idx (.var 1) (.cI 1))) .nil)))) .nil) [.d (fr p), .d (fr q)] τ = .ok (.d (fr (p - q))) τ := by
  have b1 : bitsOk p.num (q.den : Nat) = true := bits_k h1.1 (j := (q.den : Nat)) (by simpa using h2.2) (by omega) (by omega)
  have b3 : bitsOk q.num (p.den : Nat) = true := bits_k h2.1 (j := (p.den : Nat)) (by simpa using h1.2) (by omega) (by omega)
  have b2 : bitsOk (p.den : Nat) (q.den : Nat) = true := bits_k (i := (p.den : Nat)) (j := (q.den : Nat)) (by simpa using h1.2) (by simpa using h2.2) (by omega) (by omega)
  rw [sub_eq]
  have e := h (p.num * q.den - q.num * p.den) (p.den * q.den) τ (dd_ne p q) (sm_of (dd_lt h1 h2) hk)
  simp [exs, ex, ev, evA, evT, evP, evO, evI, look_br, look_own, share_br, slotOf_br, setAll, shareAll, Dv.run, fr, at0, at1, bin_mul, b1, b2, b3, e]
theorem div_run {f : Str} (h : Makes Φ f) {k m : Nat} {p q : Rat} (h1 : Sm k p) (h2 : Sm m q) (hk : k + m ≤ 4000) (h0 : q ≠ 0) (τ : Tp) :
    Dv.run Φ 2 (.cons (.ret (.call f (.cons (.bin .mul (.idx (.var 0) (.cI 0)) (.idx (.var 1) (.cI 1))) (.cons (.bin .mul (.idx (.var 0) (.cI 1)) (.idx (.var 1) (.cI 0))) .nil)))) .nil) [.d (fr p), .d (fr q)] τ = .ok (.d (fr (p / q))) τ := by
  have b1 : bitsOk p.num (q.den : Nat) = true := bits_k h1.1 (j := (q.den : Nat)) (by simpa using h2.2) (by omega) (by omega)
  have b2 : bitsOk (p.den : Nat) q.num = true := bits_k (i := (p.den : Nat)) (by simpa using h1.2) h2.1 (by omega) (by omega)
  rw [div_eq]
  have e := h (p.num * q.den) (p.den * q.num) τ (dn_ne p h0) (sm_of (by rw [Int.natAbs_mul]; exact mul_lt h1.2 h2.1) hk)
  simp [exs, ex, ev, evA, evT, evP, evO, evI, look_br, look_own, share_br, slotOf_br, setAll, shareAll, Dv.run, fr, at0, at1, bin_mul, b1, b2, e]
theorem less_run {k m : Nat} {p q : Rat} (h1 : Sm k p) (h2 : Sm m q) (hk : k + m ≤ 4000) (τ : Tp) : Dv.run Φ N_less.length A_less [.d (fr p), .d (fr q)] τ = .ok (.d (.bool (decide (p < q)))) τ := by
  have b1 : bitsOk p.num (q.den : Nat) = true := bits_k h1.1 (j := (q.den : Nat)) (by simpa using h2.2) (by omega) (by omega)
  have b3 : bitsOk q.num (p.den : Nat) = true := bits_k h2.1 (j := (p.den : Nat)) (by simpa using h1.2) (by omega) (by omega)
  have e : decide (p < q) = decide (p.num * (q.den : Nat) < q.num * (p.den : Nat)) := by
    rw [decide_eq_decide]; exact Rat.lt_iff p q
  rw [e]
  simp [exs, ex, ev, evA, evT, evP, evO, evI, look_br, look_own, share_br, slotOf_br, setAll, shareAll, Dv.run, A_less, N_less, fr, at0, at1, bin_mul, b1, b3]
def sumR (l : List Rat) : Rat := l.foldl (· + ·) 0
theorem sum_loop (h : Makes Φ "_law_ratio") (τ : Tp) (row : Option Sl) (k : Nat) : ∀ (l : List Rat) (acc : Rat) (m : Nat) (o3 o4 : Option Sl), (∀ q ∈ l, Sm k q) → Sm m acc → m + l.length * (k + 1) ≤ 4000 →
    ∃ p3 p4, forLoop (exs Φ B_law_sum_0) (.tup [.name 3, .name 4]) (l.map fr) [row, sI acc.num, sI (acc.den : Nat), o3, o4] τ = .nx [row, sI (l.foldl (· + ·) acc).num, sI ((l.foldl (· + ·) acc).den : Nat), p3, p4] τ
  | [], acc, m, o3, o4, _, _, _ => ⟨_, _, rfl⟩
  | q :: l, acc, m, o3, o4, hl, ha, hk => by
    have hq := hl q List.mem_cons_self
    rw [List.length_cons, Nat.add_mul, Nat.one_mul] at hk
    obtain ⟨p3, p4, e⟩ := sum_loop h τ row k l (acc + q) (m + k + 1) (sI q.num) (sI (q.den : Nat)) (fun x hx => hl x (List.mem_cons_of_mem _ hx)) (ha.add hq) (by omega)
    refine ⟨p3, p4, ?_⟩
    have b1 : bitsOk acc.num (q.den : Nat) = true := bits_k ha.1 (j := (q.den : Nat)) (by simpa using hq.2) (by omega) (by omega)
    have b3 : bitsOk q.num (acc.den : Nat) = true := bits_k hq.1 (j := (acc.den : Nat)) (by simpa using ha.2) (by omega) (by omega)
    have b2 : bitsOk (acc.den : Nat) (q.den : Nat) = true := bits_k (i := (acc.den : Nat)) (j := (q.den : Nat)) (by simpa using ha.2) (by simpa using hq.2) (by omega) (by omega)
    have r := h (acc.num * q.den + q.num * acc.den) (acc.den * q.den) τ (dd_ne acc q) (sm_of (dd_lt ha hq) (by omega))
    rw [← add_eq] at r
    have hb : exs Φ B_law_sum_0 [row, sI acc.num, sI (acc.den : Nat), sI q.num, sI (q.den : Nat)] τ = .nx [row, sI (acc + q).num, sI ((acc + q).den : Nat), sI q.num, sI (q.den : Nat)] τ := by
      unfold B_law_sum_0
      simp [exs, ex, ev, evA, evT, evP, evO, evI, look_br, look_own, share_br, slotOf_br, setAll, shareAll, bin_mul, b1, b2, b3, r]
      simp [fr, setTg, setTgs]
    simp only [List.map_cons, forLoop, fr, setTg, setTgs, Option.bind, List.set]
    rw [hb]
    exact e
theorem sm_zero : Sm 1 0 := ⟨by decide, by decide⟩
theorem sum_run (h : Makes Φ "_law_ratio") {k : Nat} {l : List Rat} (hl : ∀ q ∈ l, Sm k q) (hk : 1 + l.length * (k + 1) ≤ 4000) (τ : Tp) : Dv.run Φ N_law_sum.length A_law_sum [.d (.list (l.map fr))] τ = .ok (.d (fr (sumR l))) τ := by
  obtain ⟨p3, p4, e⟩ := sum_loop h τ (sD (.list (l.map fr))) k l 0 1 none none hl sm_zero hk
  rw [show ((0 : Rat).den : Int) = 1 from rfl, show (0 : Rat).num = 0 from rfl] at e
  simp [exs, ex, ev, evA, evT, evP, evO, evI, look_br, look_own, share_br, slotOf_br, setAll, shareAll, Dv.run, A_law_sum, N_law_sum, e, sumR, fr]
theorem sum_runT (h : Makes Φ "_law_ratio") {k : Nat} {l : List Rat} (hl : ∀ q ∈ l, Sm k q) (hk : 1 + l.length * (k + 1) ≤ 4000) (τ : Tp) : Dv.run Φ N_law_sum.length A_law_sum [.d (.tuple (l.map fr))] τ = .ok (.d (fr (sumR l))) τ := by
  obtain ⟨p3, p4, e⟩ := sum_loop h τ (sD (.tuple (l.map fr))) k l 0 1 none none hl sm_zero hk
  rw [show ((0 : Rat).den : Int) = 1 from rfl, show (0 : Rat).num = 0 from rfl] at e
  simp [exs, ex, ev, evA, evT, evP, evO, evI, look_br, look_own, share_br, slotOf_br, setAll, shareAll, Dv.run, A_law_sum, N_law_sum, e, sumR, fr]
end
end Fx

set_option Elab.async false
set_option linter.all false
set_option maxRecDepth 100000
set_option maxHeartbeats 8000000
/-! K42a -/
namespace K42
open PySem PySem.Spec PyProof.Rows L2 Dv
def top (i : Nat) : Stmt := PySem.Challenge.pw_heldsteady_k42_whole_lines_and_queues_be.main.body.getD i (.Pass ⟨0, 0, 0, 0⟩)
/-! share -/
def F_share_0 : Dv.Env → Tp → Nat := fuelOf 3
def N_share : List Str := ["n", "d", "a", "b"]
def W_share_0 : T := (.val (.var 3))
def B_share_0 : Ss :=
    (.cons (.par [2, 3] (.cons (.var 3) (.cons (.bin .mod (.var 2) (.var 3)) .nil)))
    .nil)
def A_share : Ss :=
    (.cons (.ifS (.cmp .eq (.var 1) (.cI 0)) (.cons (.raise "InvalidShare")
    .nil) .nil)
    (.cons (.ifS (.cmp .lt (.var 1) (.cI 0)) (.cons (.par [0, 1] (.cons (.neg (.var 0)) (.cons (.neg (.var 1)) .nil)))
    .nil) .nil)
    (.cons (.par [2, 3] (.cons (.blt .abs (.cons (.var 0) .nil)) (.cons (.var 1) .nil)))
    (.cons (.whileS F_share_0 W_share_0 B_share_0)
    (.cons (.ret (.tup (.cons (.bin .fdiv (.var 0) (.var 2)) (.cons (.bin .fdiv (.var 1) (.var 2)) .nil))))
    .nil)))))
def g_share : Sig := ⟨[], [], ["InvalidShare"]⟩
theorem chk_share : chkSs g_share ⟨N_share, defScope (top 5), fun _ => true, none⟩ A_share (defBody (top 5)) = true := by decide +kernel
def ix_share : Nat := 5
/-! times -/
def N_times : List Str := ["a", "b"]
def A_times : Ss :=
    (.cons (.ret (.call "share" (.cons (.bin .mul (.idx (.var 0) (.cI 0)) (.idx (.var 1) (.cI 0))) (.cons (.bin .mul (.idx (.var 0) (.cI 1)) (.idx (.var 1) (.cI 1))) .nil))))
    .nil)
def g_times : Sig := ⟨[("share", 2)], [], []⟩
theorem chk_times : chkSs g_times ⟨N_times, defScope (top 6), fun _ => true, none⟩ A_times (defBody (top 6)) = true := by decide +kernel
def ix_times : Nat := 6
/-! less -/
def N_less : List Str := ["a", "b"]
def A_less : Ss :=
    (.cons (.ret (.cmp .lt (.bin .mul (.idx (.var 0) (.cI 0)) (.idx (.var 1) (.cI 1))) (.bin .mul (.idx (.var 1) (.cI 0)) (.idx (.var 0) (.cI 1)))))
    .nil)
def g_less : Sig := ⟨[], [], []⟩
theorem chk_less : chkSs g_less ⟨N_less, defScope (top 7), fun _ => true, none⟩ A_less (defBody (top 7)) = true := by decide +kernel
def ix_less : Nat := 7
/-! check_line -/
def N_check_line : List Str := ["line", "row", "a"]
def K_check_line_0 : E := (.or_ (.isN (.var 2)) (.chain .le .le (.neg (.cI 99)) (.var 2) (.cI 99)))
def C_check_line_0 : E := .comp K_check_line_0 (.name 2) .seq (.cons (.var 1) .nil) .yes [("a", 2)]
def K_check_line_1 : E := (.blt .all (.cons C_check_line_0 .nil))
def C_check_line_1 : E := .comp K_check_line_1 (.name 1) .seq (.cons (.var 0) .nil) .yes [("row", 1)]
def K_check_line_2 : E := (.cmp .eq (.blt .len (.cons (.var 1) .nil)) (.blt .len (.cons (.var 0) .nil)))
def C_check_line_2 : E := .comp K_check_line_2 (.name 1) .seq (.cons (.var 0) .nil) .yes [("row", 1)]
def A_check_line : Ss :=
    (.cons (.ifS (.or_ (.not_ (.chain .le .le (.cI 1) (.blt .len (.cons (.var 0) .nil)) (.glo "MOST_SIZE" (.int 6)))) (.not_ (.val (.blt .all (.cons C_check_line_2 .nil))))) (.cons (.raise "InvalidLine")
    .nil) .nil)
    (.cons (.ifS (.not_ (.val (.blt .all (.cons C_check_line_1 .nil)))) (.cons (.raise "InvalidLine")
    .nil) .nil)
    .nil))
def g_check_line : Sig := ⟨[], [("MOST_SIZE", (.int 6))], ["InvalidLine"]⟩
theorem chk_check_line : chkSs g_check_line ⟨N_check_line, defScope (top 10), fun _ => true, none⟩ A_check_line (defBody (top 10)) = true := by decide +kernel
def ix_check_line : Nat := 10
/-! later -/
def N_later : List Str := ["a", "b"]
def A_later : Ss :=
    (.cons (.ifS (.or_ (.isN (.var 0)) (.isN (.var 1))) (.cons (.ret (.ite (.isN (.var 0)) (.var 1) (.var 0)))
    .nil) .nil)
    (.cons (.ret (.blt .max (.cons (.var 0) (.cons (.var 1) .nil))))
    .nil))
def g_later : Sig := ⟨[], [], []⟩
theorem chk_later : chkSs g_later ⟨N_later, defScope (top 11), fun _ => true, none⟩ A_later (defBody (top 11)) = true := by decide +kernel
def ix_later : Nat := 11
/-! joined -/
def N_joined : List Str := ["a", "b"]
def A_joined : Ss :=
    (.cons (.ret (.ite (.or_ (.isN (.var 0)) (.isN (.var 1))) .cN (.bin .add (.var 0) (.var 1))))
    .nil)
def g_joined : Sig := ⟨[], [], []⟩
theorem chk_joined : chkSs g_joined ⟨N_joined, defScope (top 12), fun _ => true, none⟩ A_joined (defBody (top 12)) = true := by decide +kernel
def ix_joined : Nat := 12
/-! line_image -/
def N_line_image : List Str := ["line", "row", "found", "told", "best", "a", "b"]
def B_line_image_0 : Ss :=
    (.cons (.set 4 (.call "later" (.cons (.var 4) (.cons (.call "joined" (.cons (.var 5) (.cons (.var 6) .nil))) .nil))))
    .nil)
def B_line_image_1 : Ss :=
    (.cons (.set 4 .cN)
    (.cons (.forS (.tup [(.name 5), (.name 6)]) .zip (.cons (.var 3) (.cons (.var 1) .nil)) B_line_image_0)
    (.cons (.append 2 (.var 4))
    .nil)))
def A_line_image : Ss :=
    (.cons (.set 2 (.lst .nil))
    (.cons (.forS (.name 3) .seq (.cons (.var 0) .nil) B_line_image_1)
    (.cons (.ret (.blt .tuple (.cons (.var 2) .nil)))
    .nil)))
def g_line_image : Sig := ⟨[("joined", 2), ("later", 2)], [], []⟩
theorem chk_line_image : chkSs g_line_image ⟨N_line_image, defScope (top 13), fun _ => true, none⟩ A_line_image (defBody (top 13)) = true := by decide +kernel
def ix_line_image : Nat := 13
/-! line_product -/
def N_line_product : List Str := ["one", "other", "columns", "row", "k", "column"]
def K_line_product_0 : E := (.idx (.call "line_image" (.cons (.tup (.cons (.var 3) .nil)) (.cons (.var 5) .nil))) (.cI 0))
def C_line_product_0 : E := .comp K_line_product_0 (.name 5) .seq (.cons (.var 2) .nil) .yes [("column", 5)]
def K_line_product_1 : E := (.blt .tuple (.cons C_line_product_0 .nil))
def C_line_product_1 : E := .comp K_line_product_1 (.name 3) .seq (.cons (.var 0) .nil) .yes [("row", 3)]
def K_line_product_2 : E := (.idx (.var 3) (.var 4))
def C_line_product_2 : E := .comp K_line_product_2 (.name 3) .seq (.cons (.var 1) .nil) .yes [("row", 3)]
def K_line_product_3 : E := (.blt .tuple (.cons C_line_product_2 .nil))
def C_line_product_3 : E := .comp K_line_product_3 (.name 4) .range1 (.cons (.blt .len (.cons (.var 1) .nil)) .nil) .yes [("k", 4)]
def A_line_product : Ss :=
    (.cons (.set 2 C_line_product_3)
    (.cons (.ret (.blt .tuple (.cons C_line_product_1 .nil)))
    .nil))
def g_line_product : Sig := ⟨[("line_image", 2)], [], []⟩
theorem chk_line_product : chkSs g_line_product ⟨N_line_product, defScope (top 14), fun _ => true, none⟩ A_line_product (defBody (top 14)) = true := by decide +kernel
def ix_line_product : Nat := 14
/-! line_power -/
def N_line_power : List Str := ["line", "many", "size", "found", "j", "i", "_"]
def B_line_power_0 : Ss :=
    (.cons (.set 3 (.call "line_product" (.cons (.var 3) (.cons (.var 0) .nil))))
    .nil)
def K_line_power_0 : E := (.ite (.cmp .eq (.var 5) (.var 4)) (.cI 0) .cN)
def C_line_power_0 : E := .comp K_line_power_0 (.name 4) .range1 (.cons (.var 2) .nil) .yes [("j", 4)]
def K_line_power_1 : E := (.blt .tuple (.cons C_line_power_0 .nil))
def C_line_power_1 : E := .comp K_line_power_1 (.name 5) .range1 (.cons (.var 2) .nil) .yes [("i", 5)]
def A_line_power : Ss :=
    (.cons (.expr (.call "check_line" (.cons (.var 0) .nil)))
    (.cons (.ifS (.not_ (.chain .le .le (.cI 0) (.var 1) (.cI 60))) (.cons (.raise "InvalidLine")
    .nil) .nil)
    (.cons (.set 2 (.blt .len (.cons (.var 0) .nil)))
    (.cons (.set 3 (.blt .tuple (.cons C_line_power_1 .nil)))
    (.cons (.forS (.name 6) .range1 (.cons (.var 1) .nil) B_line_power_0)
    (.cons (.ret (.var 3))
    .nil))))))
def g_line_power : Sig := ⟨[("check_line", 1), ("line_product", 2)], [], ["InvalidLine"]⟩
theorem chk_line_power : chkSs g_line_power ⟨N_line_power, defScope (top 15), fun _ => true, none⟩ A_line_power (defBody (top 15)) = true := by decide +kernel
def ix_line_power : Nat := 15
/-! run_line -/
def N_run_line : List Str := ["line", "row", "many", "found", "_"]
def B_run_line_0 : Ss :=
    (.cons (.append 3 (.call "line_image" (.cons (.var 0) (.cons (.idx (.var 3) (.neg (.cI 1))) .nil))))
    .nil)
def A_run_line : Ss :=
    (.cons (.expr (.call "check_line" (.cons (.var 0) .nil)))
    (.cons (.ifS (.or_ (.cmp .ne (.blt .len (.cons (.var 1) .nil)) (.blt .len (.cons (.var 0) .nil))) (.not_ (.chain .le .le (.cI 0) (.var 2) (.cI 60)))) (.cons (.raise "InvalidLine")
    .nil) .nil)
    (.cons (.set 3 (.lst (.cons (.blt .tuple (.cons (.var 1) .nil)) .nil)))
    (.cons (.forS (.name 4) .range1 (.cons (.var 2) .nil) B_run_line_0)
    (.cons (.ret (.blt .tuple (.cons (.var 3) .nil)))
    .nil)))))
def g_run_line : Sig := ⟨[("check_line", 1), ("line_image", 2)], [], ["InvalidLine"]⟩
theorem chk_run_line : chkSs g_run_line ⟨N_run_line, defScope (top 16), fun _ => true, none⟩ A_run_line (defBody (top 16)) = true := by decide +kernel
def ix_run_line : Nat := 16
/-! circles -/
def F_circles_0 : Dv.Env → Tp → Nat := fuelOf 3
def N_circles : List Str := ["line", "found", "start", "waiting", "way", "fits", "k"]
def W_circles_0 : T := (.val (.var 3))
def K_circles_0 : E := (.bin .add (.var 4) (.tup (.cons (.var 6) .nil)))
def C_circles_0 : E := .comp K_circles_0 (.name 6) .seq (.cons (.var 5) .nil) .yes [("k", 6)]
def K_circles_1 : E := (.var 6)
def L_circles_1 : T := (.and_ (.cmp .notin (.var 6) (.var 4)) (.notN (.idx (.idx (.var 0) (.idx (.var 4) (.neg (.cI 1)))) (.var 6))))
def C_circles_1 : E := .comp K_circles_1 (.name 6) .range2 (.cons (.bin .add (.var 2) (.cI 1)) (.cons (.blt .len (.cons (.var 0) .nil)) .nil)) L_circles_1 [("k", 6)]
def B_circles_0 : Ss :=
    (.cons (.set 4 (.pop 3))
    (.cons (.ifS (.notN (.idx (.idx (.var 0) (.idx (.var 4) (.neg (.cI 1)))) (.var 2))) (.cons (.append 1 (.var 4))
    .nil) .nil)
    (.cons (.set 5 C_circles_1)
    (.cons (.extend 3 C_circles_0)
    .nil))))
def B_circles_1 : Ss :=
    (.cons (.set 3 (.lst (.cons (.tup (.cons (.var 2) .nil)) .nil)))
    (.cons (.whileS F_circles_0 W_circles_0 B_circles_0)
    .nil))
def A_circles : Ss :=
    (.cons (.expr (.call "check_line" (.cons (.var 0) .nil)))
    (.cons (.set 1 (.lst .nil))
    (.cons (.forS (.name 2) .range1 (.cons (.blt .len (.cons (.var 0) .nil)) .nil) B_circles_1)
    (.cons (.ret (.blt .sorted (.cons (.var 1) .nil)))
    .nil))))
def g_circles : Sig := ⟨[("check_line", 1)], [], []⟩
theorem chk_circles : chkSs g_circles ⟨N_circles, defScope (top 17), fun _ => true, none⟩ A_circles (defBody (top 17)) = true := by decide +kernel
def ix_circles : Nat := 17
/-! mean_of -/
def N_mean_of : List Str := ["line", "circle", "a", "b"]
def K_mean_of_0 : E := (.idx (.idx (.var 0) (.var 2)) (.var 3))
def C_mean_of_0 : E := .comp K_mean_of_0 (.tup [(.name 2), (.name 3)]) .zip (.cons (.var 1) (.cons (.bin .add (.sli (.var 1) (.val (.cI 1)) .miss) (.sli (.var 1) .miss (.val (.cI 1)))) .nil)) .yes [("a", 2), ("b", 3)]
def A_mean_of : Ss :=
    (.cons (.ret (.call "share" (.cons (.blt .sum (.cons C_mean_of_0 .nil)) (.cons (.blt .len (.cons (.var 1) .nil)) .nil))))
    .nil)
def g_mean_of : Sig := ⟨[("share", 2)], [], []⟩
theorem chk_mean_of : chkSs g_mean_of ⟨N_mean_of, defScope (top 18), fun _ => true, none⟩ A_mean_of (defBody (top 18)) = true := by decide +kernel
def ix_mean_of : Nat := 18
/-! rate -/
def N_rate : List Str := ["line", "best", "circle", "told"]
def B_rate_0 : Ss :=
    (.cons (.set 3 (.call "mean_of" (.cons (.var 0) (.cons (.var 2) .nil))))
    (.cons (.set 1 (.ite (.or_ (.isN (.var 1)) (.val (.call "less" (.cons (.var 1) (.cons (.var 3) .nil))))) (.var 3) (.var 1)))
    .nil))
def A_rate : Ss :=
    (.cons (.set 1 .cN)
    (.cons (.forS (.name 2) .seq (.cons (.call "circles" (.cons (.var 0) .nil)) .nil) B_rate_0)
    (.cons (.ret (.var 1))
    .nil)))
def g_rate : Sig := ⟨[("circles", 1), ("less", 2), ("mean_of", 2)], [], []⟩
theorem chk_rate : chkSs g_rate ⟨N_rate, defScope (top 19), fun _ => true, none⟩ A_rate (defBody (top 19)) = true := by decide +kernel
def ix_rate : Nat := 19
/-! rate_paper -/
def N_rate_paper : List Str := ["line", "best", "first", "circle", "size", "d", "row", "_", "told", "i", "j", "a"]
def K_rate_paper_0 : E := (.call "share" (.cons (.var 11) (.cons (.var 5) .nil)))
def C_rate_paper_0 : E := .comp K_rate_paper_0 (.name 11) .seq (.cons (.var 6) .nil) .yes [("a", 11)]
def B_rate_paper_0 : Ss :=
    (.cons (.ifS (.notN (.idx (.idx (.var 0) (.var 9)) (.var 10))) (.cons (.setIx 8 (.var 9) (.blt .max (.cons (.idx (.var 8) (.var 9)) (.cons (.bin .add (.bin .sub (.bin .mul (.idx (.idx (.var 0) (.var 9)) (.var 10)) (.var 5)) (.idx (.var 1) (.cI 0))) (.idx (.var 6) (.var 10))) .nil))))
    .nil) .nil)
    .nil)
def B_rate_paper_1 : Ss :=
    (.cons (.forS (.name 10) .range1 (.cons (.var 4) .nil) B_rate_paper_0)
    .nil)
def B_rate_paper_2 : Ss :=
    (.cons (.set 8 (.blt .list (.cons (.var 6) .nil)))
    (.cons (.forS (.name 9) .range1 (.cons (.var 4) .nil) B_rate_paper_1)
    (.cons (.set 6 (.var 8))
    .nil)))
def K_rate_paper_1 : E := (.var 3)
def L_rate_paper_1 : T := (.cmp .eq (.call "mean_of" (.cons (.var 0) (.cons (.var 3) .nil))) (.var 1))
def C_rate_paper_1 : E := .comp K_rate_paper_1 (.name 3) .seq (.cons (.call "circles" (.cons (.var 0) .nil)) .nil) L_rate_paper_1 [("circle", 3)]
def A_rate_paper : Ss :=
    (.cons (.set 1 (.call "rate" (.cons (.var 0) .nil)))
    (.cons (.ifS (.isN (.var 1)) (.cons (.ret .cN)
    .nil) .nil)
    (.cons (.set 2 (.idx C_rate_paper_1 (.cI 0)))
    (.cons (.par [4, 5] (.cons (.blt .len (.cons (.var 0) .nil)) (.cons (.idx (.var 1) (.cI 1)) .nil)))
    (.cons (.set 6 (.bin .mul (.lst (.cons (.cI 0) .nil)) (.var 4)))
    (.cons (.forS (.name 7) .range1 (.cons (.bin .add (.var 4) (.cI 1)) .nil) B_rate_paper_2)
    (.cons (.ret (.tup (.cons (.var 2) (.cons (.blt .tuple (.cons C_rate_paper_0 .nil)) .nil))))
    .nil)))))))
def g_rate_paper : Sig := ⟨[("circles", 1), ("mean_of", 2), ("rate", 1), ("share", 2)], [], []⟩
theorem chk_rate_paper : chkSs g_rate_paper ⟨N_rate_paper, defScope (top 20), fun _ => true, none⟩ A_rate_paper (defBody (top 20)) = true := by decide +kernel
def ix_rate_paper : Nat := 20
/-! takes_rate -/
def N_takes_rate : List Str := ["line", "told", "paper", "circle", "row", "size", "k", "a", "b", "i", "j", "gap"]
def B_takes_rate_0 : Ss :=
    (.cons (.ifS (.notN (.idx (.idx (.var 0) (.var 9)) (.var 10))) (.cons (.set 11 (.call "share" (.cons (.bin .sub (.bin .mul (.bin .add (.bin .mul (.idx (.idx (.var 0) (.var 9)) (.var 10)) (.idx (.idx (.var 4) (.var 10)) (.cI 1))) (.idx (.idx (.var 4) (.var 10)) (.cI 0))) (.idx (.var 1) (.cI 1))) (.bin .mul (.idx (.var 1) (.cI 0)) (.idx (.idx (.var 4) (.var 10)) (.cI 1)))) (.cons (.bin .mul (.idx (.idx (.var 4) (.var 10)) (.cI 1)) (.idx (.var 1) (.cI 1))) .nil))))
    (.cons (.ifS (.val (.call "less" (.cons (.idx (.var 4) (.var 9)) (.cons (.var 11) .nil)))) (.cons (.ret (.cB false))
    .nil) .nil)
    .nil)) .nil)
    .nil)
def B_takes_rate_1 : Ss :=
    (.cons (.forS (.name 10) .range1 (.cons (.var 5) .nil) B_takes_rate_0)
    .nil)
def K_takes_rate_0 : E := (.isN (.idx (.idx (.var 0) (.var 7)) (.var 8)))
def C_takes_rate_0 : E := .comp K_takes_rate_0 (.tup [(.name 7), (.name 8)]) .zip (.cons (.var 3) (.cons (.bin .add (.sli (.var 3) (.val (.cI 1)) .miss) (.sli (.var 3) .miss (.val (.cI 1)))) .nil)) .yes [("a", 7), ("b", 8)]
def K_takes_rate_1 : E := (.chain .le .lt (.cI 0) (.var 6) (.var 5))
def C_takes_rate_1 : E := .comp K_takes_rate_1 (.name 6) .seq (.cons (.var 3) .nil) .yes [("k", 6)]
def A_takes_rate : Ss :=
    (.cons (.expr (.call "check_line" (.cons (.var 0) .nil)))
    (.cons (.unp (.tup [(.name 3), (.name 4)]) (.var 2))
    (.cons (.set 5 (.blt .len (.cons (.var 0) .nil)))
    (.cons (.ifS (.or_ (.not_ (.val (.var 3))) (.or_ (.cmp .ne (.p1 .lenSet (.var 3)) (.blt .len (.cons (.var 3) .nil))) (.or_ (.not_ (.val (.blt .all (.cons C_takes_rate_1 .nil)))) (.cmp .ne (.blt .len (.cons (.var 4) .nil)) (.var 5))))) (.cons (.ret (.cB false))
    .nil) .nil)
    (.cons (.ifS (.val (.blt .any (.cons C_takes_rate_0 .nil))) (.cons (.ret (.cB false))
    .nil) .nil)
    (.cons (.ifS (.cmp .ne (.call "mean_of" (.cons (.var 0) (.cons (.blt .tuple (.cons (.var 3) .nil)) .nil))) (.var 1)) (.cons (.ret (.cB false))
    .nil) .nil)
    (.cons (.forS (.name 9) .range1 (.cons (.var 5) .nil) B_takes_rate_1)
    (.cons (.ret (.cB true))
    .nil))))))))
def g_takes_rate : Sig := ⟨[("check_line", 1), ("less", 2), ("mean_of", 2), ("share", 2)], [], []⟩
theorem chk_takes_rate : chkSs g_takes_rate ⟨N_takes_rate, defScope (top 21), fun _ => true, none⟩ A_takes_rate (defBody (top 21)) = true := by decide +kernel
def ix_takes_rate : Nat := 21
/-! is_joined -/
def N_is_joined : List Str := ["line", "size", "far", "j", "i", "k", "row"]
def K_is_joined_0 : E := (.blt .all (.cons (.var 6) .nil))
def C_is_joined_0 : E := .comp K_is_joined_0 (.name 6) .seq (.cons (.var 2) .nil) .yes [("row", 6)]
def K_is_joined_1 : E := (.or_ (.idx (.idx (.var 2) (.var 4)) (.var 3)) (.and_ (.idx (.idx (.var 2) (.var 4)) (.var 5)) (.idx (.idx (.var 2) (.var 5)) (.var 3))))
def C_is_joined_1 : E := .comp K_is_joined_1 (.name 3) .range1 (.cons (.var 1) .nil) .yes [("j", 3)]
def K_is_joined_2 : E := C_is_joined_1
def C_is_joined_2 : E := .comp K_is_joined_2 (.name 4) .range1 (.cons (.var 1) .nil) .yes [("i", 4)]
def B_is_joined_0 : Ss :=
    (.cons (.set 2 C_is_joined_2)
    .nil)
def K_is_joined_3 : E := (.notN (.idx (.idx (.var 0) (.var 4)) (.var 3)))
def C_is_joined_3 : E := .comp K_is_joined_3 (.name 3) .range1 (.cons (.var 1) .nil) .yes [("j", 3)]
def K_is_joined_4 : E := C_is_joined_3
def C_is_joined_4 : E := .comp K_is_joined_4 (.name 4) .range1 (.cons (.var 1) .nil) .yes [("i", 4)]
def A_is_joined : Ss :=
    (.cons (.expr (.call "check_line" (.cons (.var 0) .nil)))
    (.cons (.set 1 (.blt .len (.cons (.var 0) .nil)))
    (.cons (.set 2 C_is_joined_4)
    (.cons (.forS (.name 5) .range1 (.cons (.var 1) .nil) B_is_joined_0)
    (.cons (.ret (.blt .all (.cons C_is_joined_0 .nil)))
    .nil)))))
def g_is_joined : Sig := ⟨[("check_line", 1)], [], []⟩
theorem chk_is_joined : chkSs g_is_joined ⟨N_is_joined, defScope (top 22), fun _ => true, none⟩ A_is_joined (defBody (top 22)) = true := by decide +kernel
def ix_is_joined : Nat := 22
/-! regime -/
def N_regime : List Str := ["line", "best", "powers", "many", "round_size", "told"]
def B_regime_0 : Ss :=
    (.cons (.set 5 (.call "times" (.cons (.var 1) (.cons (.tup (.cons (.var 4) (.cons (.cI 1) .nil))) .nil))))
    (.cons (.ifS (.and_ (.cmp .eq (.idx (.var 5) (.cI 1)) (.cI 1)) (.cmp .eq (.call "moved_by" (.cons (.idx (.var 2) (.bin .sub (.var 3) (.var 4))) (.cons (.idx (.var 5) (.cI 0)) .nil))) (.idx (.var 2) (.var 3)))) (.cons (.ret (.tup (.cons (.bin .sub (.var 3) (.var 4)) (.cons (.var 4) (.cons (.idx (.var 5) (.cI 0)) .nil)))))
    .nil) .nil)
    .nil))
def B_regime_1 : Ss :=
    (.cons (.append 2 (.call "line_product" (.cons (.idx (.var 2) (.neg (.cI 1))) (.cons (.var 0) .nil))))
    (.cons (.forS (.name 4) .range2 (.cons (.cI 1) (.cons (.bin .add (.var 3) (.cI 1)) .nil)) B_regime_0)
    .nil))
def A_regime : Ss :=
    (.cons (.ifS (.not_ (.val (.call "is_joined" (.cons (.var 0) .nil)))) (.cons (.raise "InvalidLine")
    .nil) .nil)
    (.cons (.set 1 (.call "rate" (.cons (.var 0) .nil)))
    (.cons (.set 2 (.lst (.cons (.call "line_power" (.cons (.var 0) (.cons (.cI 0) .nil))) .nil)))
    (.cons (.forS (.name 3) .range2 (.cons (.cI 1) (.cons (.cI 61) .nil)) B_regime_1)
    (.cons (.raise "InvalidLine")
    .nil)))))
def g_regime : Sig := ⟨[("is_joined", 1), ("line_power", 2), ("line_product", 2), ("moved_by", 2), ("rate", 1), ("times", 2)], [], ["InvalidLine"]⟩
theorem chk_regime : chkSs g_regime ⟨N_regime, defScope (top 23), fun _ => true, none⟩ A_regime (defBody (top 23)) = true := by decide +kernel
def ix_regime : Nat := 23
/-! moved_by -/
def N_moved_by : List Str := ["line", "number", "a", "row"]
def K_moved_by_0 : E := (.call "joined" (.cons (.var 2) (.cons (.var 1) .nil)))
def C_moved_by_0 : E := .comp K_moved_by_0 (.name 2) .seq (.cons (.var 3) .nil) .yes [("a", 2)]
def K_moved_by_1 : E := (.blt .tuple (.cons C_moved_by_0 .nil))
def C_moved_by_1 : E := .comp K_moved_by_1 (.name 3) .seq (.cons (.var 0) .nil) .yes [("row", 3)]
def A_moved_by : Ss :=
    (.cons (.ret (.blt .tuple (.cons C_moved_by_1 .nil)))
    .nil)
def g_moved_by : Sig := ⟨[("joined", 2)], [], []⟩
theorem chk_moved_by : chkSs g_moved_by ⟨N_moved_by, defScope (top 24), fun _ => true, none⟩ A_moved_by (defBody (top 24)) = true := by decide +kernel
def ix_moved_by : Nat := 24
/-! check_chain -/
def N_check_chain : List Str := ["times", "window", "back", "time"]
def K_check_chain_0 : E := (.chain .le .le (.cI 0) (.var 3) (.cI 30))
def C_check_chain_0 : E := .comp K_check_chain_0 (.name 3) .seq (.cons (.var 0) .nil) .yes [("time", 3)]
def A_check_chain : Ss :=
    (.cons (.ifS (.or_ (.not_ (.chain .le .le (.cI 1) (.blt .len (.cons (.var 0) .nil)) (.glo "MOST_SERVERS" (.int 4)))) (.not_ (.val (.blt .all (.cons C_check_chain_0 .nil))))) (.cons (.raise "InvalidLine")
    .nil) .nil)
    (.cons (.ifS (.or_ (.not_ (.chain .le .le (.cI 1) (.var 1) (.glo "MOST_WINDOW" (.int 6)))) (.not_ (.chain .le .le (.cI 0) (.var 2) (.cI 30)))) (.cons (.raise "InvalidLine")
    .nil) .nil)
    .nil))
def g_check_chain : Sig := ⟨[], [("MOST_SERVERS", (.int 4)), ("MOST_WINDOW", (.int 6))], ["InvalidLine"]⟩
theorem chk_check_chain : chkSs g_check_chain ⟨N_check_chain, defScope (top 28), fun _ => true, none⟩ A_check_chain (defBody (top 28)) = true := by decide +kernel
def ix_check_chain : Nat := 28
/-! job_times -/
def N_job_times : List Str := ["times", "window", "back", "comes", "a", "b", "found", "n", "start", "now", "row", "k", "time"]
def B_job_times_0 : Ss :=
    (.cons (.ifS (.cmp .gt (.var 7) (.cI 0)) (.cons (.set 9 (.blt .max (.cons (.var 9) (.cons (.idx (.idx (.var 6) (.bin .sub (.var 7) (.cI 1))) (.var 11)) .nil))))
    .nil) .nil)
    (.cons (.aug 9 .add (.var 12))
    (.cons (.append 10 (.var 9))
    .nil)))
def B_job_times_1 : Ss :=
    (.cons (.set 9 (.var 8))
    (.cons (.ifS (.cmp .ge (.var 7) (.var 1)) (.cons (.set 9 (.blt .max (.cons (.var 9) (.cons (.bin .add (.idx (.idx (.var 6) (.bin .sub (.var 7) (.var 1))) (.neg (.cI 1))) (.var 2)) .nil))))
    .nil) .nil)
    (.cons (.set 10 (.lst .nil))
    (.cons (.forS (.tup [(.name 11), (.name 12)]) .enum (.cons (.var 0) .nil) B_job_times_0)
    (.cons (.append 6 (.blt .tuple (.cons (.var 10) .nil)))
    .nil)))))
def K_job_times_0 : E := (.cmp .le (.var 4) (.var 5))
def C_job_times_0 : E := .comp K_job_times_0 (.tup [(.name 4), (.name 5)]) .zip (.cons (.sli (.var 3) .miss (.val (.neg (.cI 1)))) (.cons (.sli (.var 3) (.val (.cI 1)) .miss) .nil)) .yes [("a", 4), ("b", 5)]
def A_job_times : Ss :=
    (.cons (.expr (.call "check_chain" (.cons (.var 0) (.cons (.var 1) (.cons (.var 2) .nil)))))
    (.cons (.ifS (.or_ (.cmp .gt (.blt .len (.cons (.var 3) .nil)) (.cI 60)) (.not_ (.val (.blt .all (.cons C_job_times_0 .nil))))) (.cons (.raise "InvalidLine")
    .nil) .nil)
    (.cons (.set 6 (.lst .nil))
    (.cons (.forS (.tup [(.name 7), (.name 8)]) .enum (.cons (.var 3) .nil) B_job_times_1)
    (.cons (.ret (.blt .tuple (.cons (.var 6) .nil)))
    .nil)))))
def g_job_times : Sig := ⟨[("check_chain", 3)], [], ["InvalidLine"]⟩
theorem chk_job_times : chkSs g_job_times ⟨N_job_times, defScope (top 29), fun _ => true, none⟩ A_job_times (defBody (top 29)) = true := by decide +kernel
def ix_job_times : Nat := 29
/-! pace -/
def N_pace : List Str := ["times", "window", "back", "slow", "turn"]
def A_pace : Ss :=
    (.cons (.expr (.call "check_chain" (.cons (.var 0) (.cons (.var 1) (.cons (.var 2) .nil)))))
    (.cons (.par [3, 4] (.cons (.tup (.cons (.blt .max (.cons (.var 0) .nil)) (.cons (.cI 1) .nil))) (.cons (.call "share" (.cons (.bin .add (.blt .sum (.cons (.var 0) .nil)) (.var 2)) (.cons (.var 1) .nil))) .nil)))
    (.cons (.ret (.ite (.val (.call "less" (.cons (.var 3) (.cons (.var 4) .nil)))) (.var 4) (.var 3)))
    .nil)))
def g_pace : Sig := ⟨[("check_chain", 3), ("less", 2), ("share", 2)], [], []⟩
theorem chk_pace : chkSs g_pace ⟨N_pace, defScope (top 30), fun _ => true, none⟩ A_pace (defBody (top 30)) = true := by decide +kernel
def ix_pace : Nat := 30
/-! least_window -/
def N_least_window : List Str := ["times", "back", "window"]
def B_least_window_0 : Ss :=
    (.cons (.expr (.call "check_chain" (.cons (.var 0) (.cons (.var 2) (.cons (.var 1) .nil)))))
    (.cons (.ifS (.cmp .eq (.call "pace" (.cons (.var 0) (.cons (.var 2) (.cons (.var 1) .nil)))) (.tup (.cons (.blt .max (.cons (.var 0) .nil)) (.cons (.cI 1) .nil)))) (.cons (.ret (.var 2))
    .nil) .nil)
    .nil))
def A_least_window : Ss :=
    (.cons (.forS (.name 2) .range2 (.cons (.cI 1) (.cons (.bin .add (.glo "MOST_WINDOW" (.int 6)) (.cI 1)) .nil)) B_least_window_0)
    (.cons (.ret .cN)
    .nil))
def g_least_window : Sig := ⟨[("check_chain", 3), ("pace", 3)], [("MOST_WINDOW", (.int 6))], []⟩
theorem chk_least_window : chkSs g_least_window ⟨N_least_window, defScope (top 31), fun _ => true, none⟩ A_least_window (defBody (top 31)) = true := by decide +kernel
def ix_least_window : Nat := 31
/-! waiting -/
def N_waiting : List Str := ["times", "window", "back", "comes", "told", "row", "start"]
def K_waiting_0 : E := (.bin .sub (.bin .sub (.idx (.var 5) (.neg (.cI 1))) (.var 6)) (.blt .sum (.cons (.var 0) .nil)))
def C_waiting_0 : E := .comp K_waiting_0 (.tup [(.name 5), (.name 6)]) .zip (.cons (.var 4) (.cons (.var 3) .nil)) .yes [("row", 5), ("start", 6)]
def A_waiting : Ss :=
    (.cons (.set 4 (.call "job_times" (.cons (.var 0) (.cons (.var 1) (.cons (.var 2) (.cons (.var 3) .nil))))))
    (.cons (.ret (.blt .tuple (.cons C_waiting_0 .nil)))
    .nil))
def g_waiting : Sig := ⟨[("job_times", 4)], [], []⟩
theorem chk_waiting : chkSs g_waiting ⟨N_waiting, defScope (top 32), fun _ => true, none⟩ A_waiting (defBody (top 32)) = true := by decide +kernel
def ix_waiting : Nat := 32
def ix_law_tape : Nat := 34
/-! _law_take -/
def N_law_take : List Str := ["tape", "many", "drawn", "mixed"]
def A_law_take : Ss :=
    (.cons (.ifS (.and_ (.cmp .eq (.tget 0 .left) (.cI 0)) (.cmp .lt (.tget 0 .at_) (.blt .len (.cons (.tget 0 .cells) .nil)))) (.cons (.tset 0 .left (.idx (.tget 0 .cells) (.tget 0 .at_)))
    (.cons (.tset 0 .at_ (.bin .add (.tget 0 .at_) (.cI 1)))
    .nil)) .nil)
    (.cons (.ifS (.cmp .gt (.tget 0 .left) (.cI 0)) (.cons (.set 2 (.bin .mod (.blt .int (.cons (.tget 0 .left) .nil)) (.var 1)))
    (.cons (.tset 0 .left (.bin .fdiv (.tget 0 .left) (.var 1)))
    (.cons (.ret (.var 2))
    .nil))) .nil)
    (.cons (.tset 0 .salt (.bin .add (.tget 0 .salt) (.cI 1)))
    (.cons (.set 3 (.bin .mod (.blt .int (.cons (.bin .add (.bin .mul (.tget 0 .seed) (.cI 48271)) (.bin .mul (.tget 0 .salt) (.cI 69621))) .nil)) (.cI 2147483647)))
    (.cons (.set 3 (.bin .mod (.blt .int (.cons (.bin .add (.bin .add (.bin .mul (.var 3) (.var 3)) (.bin .mul (.tget 0 .salt) (.cI 40692))) (.cI 12345)) .nil)) (.cI 2147483399)))
    (.cons (.ret (.bin .mod (.blt .int (.cons (.var 3) .nil)) (.var 1)))
    .nil))))))
def g_law_take : Sig := ⟨[], [], []⟩
theorem chk_law_take : chkSs g_law_take ⟨N_law_take, defScope (top 35), fun _ => true, none⟩ A_law_take (defBody (top 35)) = true := by decide +kernel
def ix_law_take : Nat := 35
/-! _law_gcd -/
def F_law_gcd_0 : Dv.Env → Tp → Nat := fuelOf 1
def N_law_gcd : List Str := ["a", "b"]
def W_law_gcd_0 : T := (.cmp .gt (.var 1) (.cI 0))
def B_law_gcd_0 : Ss :=
    (.cons (.par [0, 1] (.cons (.var 1) (.cons (.bin .mod (.blt .int (.cons (.var 0) .nil)) (.var 1)) .nil)))
    .nil)
def A_law_gcd : Ss :=
    (.cons (.par [0, 1] (.cons (.blt .abs (.cons (.var 0) .nil)) (.cons (.blt .abs (.cons (.var 1) .nil)) .nil)))
    (.cons (.whileS F_law_gcd_0 W_law_gcd_0 B_law_gcd_0)
    (.cons (.ret (.var 0))
    .nil)))
def g_law_gcd : Sig := ⟨[], [], []⟩
theorem chk_law_gcd : chkSs g_law_gcd ⟨N_law_gcd, defScope (top 36), fun _ => true, none⟩ A_law_gcd (defBody (top 36)) = true := by decide +kernel
def ix_law_gcd : Nat := 36
/-! _law_ratio -/
def N_law_ratio : List Str := ["n", "d", "most"]
def A_law_ratio : Ss :=
    (.cons (.ifS (.cmp .lt (.var 1) (.cI 0)) (.cons (.par [0, 1] (.cons (.bin .sub (.cI 0) (.var 0)) (.cons (.bin .sub (.cI 0) (.var 1)) .nil)))
    .nil) .nil)
    (.cons (.set 2 (.call "_law_gcd" (.cons (.var 0) (.cons (.var 1) .nil))))
    (.cons (.ret (.tup (.cons (.bin .fdiv (.var 0) (.var 2)) (.cons (.bin .fdiv (.var 1) (.var 2)) .nil))))
    .nil)))
def g_law_ratio : Sig := ⟨[("_law_gcd", 2)], [], []⟩
theorem chk_law_ratio : chkSs g_law_ratio ⟨N_law_ratio, defScope (top 37), fun _ => true, none⟩ A_law_ratio (defBody (top 37)) = true := by decide +kernel
def ix_law_ratio : Nat := 37
/-! _law_sum -/
def N_law_sum : List Str := ["row", "n", "d", "a", "b"]
def B_law_sum_0 : Ss :=
    (.cons (.unp (.tup [(.name 1), (.name 2)]) (.call "_law_ratio" (.cons (.bin .add (.bin .mul (.var 1) (.var 4)) (.bin .mul (.var 3) (.var 2))) (.cons (.bin .mul (.var 2) (.var 4)) .nil))))
    .nil)
def A_law_sum : Ss :=
    (.cons (.par [1, 2] (.cons (.cI 0) (.cons (.cI 1) .nil)))
    (.cons (.forS (.tup [(.name 3), (.name 4)]) .seq (.cons (.var 0) .nil) B_law_sum_0)
    (.cons (.ret (.tup (.cons (.var 1) (.cons (.var 2) .nil))))
    .nil)))
def g_law_sum : Sig := ⟨[("_law_ratio", 2)], [], []⟩
theorem chk_law_sum : chkSs g_law_sum ⟨N_law_sum, defScope (top 38), fun _ => true, none⟩ A_law_sum (defBody (top 38)) = true := by decide +kernel
def ix_law_sum : Nat := 38
/-! _law_times -/
def N_law_times : List Str := ["a", "b"]
def A_law_times : Ss :=
    (.cons (.ret (.call "_law_ratio" (.cons (.bin .mul (.idx (.var 0) (.cI 0)) (.idx (.var 1) (.cI 0))) (.cons (.bin .mul (.idx (.var 0) (.cI 1)) (.idx (.var 1) (.cI 1))) .nil))))
    .nil)
def g_law_times : Sig := ⟨[("_law_ratio", 2)], [], []⟩
theorem chk_law_times : chkSs g_law_times ⟨N_law_times, defScope (top 39), fun _ => true, none⟩ A_law_times (defBody (top 39)) = true := by decide +kernel
def ix_law_times : Nat := 39
/-! _law_line -/
def N_law_line : List Str := ["tape", "size", "gaps", "j", "i"]
def K_law_line_0 : E := (.ite (.cmp .eq (.call "_law_take" (.cons (.var 0) (.cons (.var 2) .nil))) (.cI 0)) .cN (.bin .sub (.call "_law_take" (.cons (.var 0) (.cons (.cI 15) .nil))) (.cI 4)))
def C_law_line_0 : E := .comp K_law_line_0 (.name 3) .range1 (.cons (.var 1) .nil) .yes [("j", 3)]
def K_law_line_1 : E := (.blt .tuple (.cons C_law_line_0 .nil))
def C_law_line_1 : E := .comp K_law_line_1 (.name 4) .range1 (.cons (.var 1) .nil) .yes [("i", 4)]
def A_law_line : Ss :=
    (.cons (.set 2 (.bin .add (.cI 2) (.call "_law_take" (.cons (.var 0) (.cons (.cI 4) .nil)))))
    (.cons (.ret (.blt .tuple (.cons C_law_line_1 .nil)))
    .nil))
def g_law_line : Sig := ⟨[("_law_take", 2)], [], []⟩
theorem chk_law_line : chkSs g_law_line ⟨N_law_line, defScope (top 40), fun _ => true, none⟩ A_law_line (defBody (top 40)) = true := by decide +kernel
def ix_law_line : Nat := 40
/-! _law_plus -/
def N_law_plus : List Str := ["a", "b"]
def A_law_plus : Ss :=
    (.cons (.ret (.ite (.isN (.var 0)) .cN (.bin .add (.var 0) (.var 1))))
    .nil)
def g_law_plus : Sig := ⟨[], [], []⟩
theorem chk_law_plus : chkSs g_law_plus ⟨N_law_plus, defScope (top 41), fun _ => true, none⟩ A_law_plus (defBody (top 41)) = true := by decide +kernel
def ix_law_plus : Nat := 41
/-! _law_regime -/
def N_law_regime : List Str := ["line"]
def A_law_regime : Ss :=
    (.cons (.tryRet (.call "regime" (.cons (.var 0) .nil)) "InvalidLine")
    .nil)
def g_law_regime : Sig := ⟨[("regime", 1)], [], ["InvalidLine"]⟩
theorem chk_law_regime : chkSs g_law_regime ⟨N_law_regime, defScope (top 42), fun _ => true, none⟩ A_law_regime (defBody (top 42)) = true := by decide +kernel
def ix_law_regime : Nat := 42
/-! _law_renamed -/
def N_law_renamed : List Str := ["circle", "names", "row", "k", "at"]
def K_law_renamed_0 : E := (.idx (.var 1) (.var 3))
def C_law_renamed_0 : E := .comp K_law_renamed_0 (.name 3) .seq (.cons (.var 0) .nil) .yes [("k", 3)]
def A_law_renamed : Ss :=
    (.cons (.set 2 C_law_renamed_0)
    (.cons (.set 4 (.p2 .index (.var 2) (.blt .min (.cons (.var 2) .nil))))
    (.cons (.ret (.blt .tuple (.cons (.bin .add (.sli (.var 2) (.val (.var 4)) .miss) (.sli (.var 2) .miss (.val (.var 4)))) .nil)))
    .nil)))
def g_law_renamed : Sig := ⟨[], [], []⟩
theorem chk_law_renamed : chkSs g_law_renamed ⟨N_law_renamed, defScope (top 43), fun _ => true, none⟩ A_law_renamed (defBody (top 43)) = true := by decide +kernel
def ix_law_renamed : Nat := 43
/-! _law_changes_right -/
def N_law_changes_right : List Str := ["tape", "line", "size", "lift", "k", "best", "told", "other", "j", "i", "circle", "steps", "one", "two", "row", "end", "bent", "n", "by", "factor", "moved", "great", "a", "across", "lifted", "first", "start", "turn", "time"]
def K_law_changes_right_0 : E := (.call "_law_times" (.cons (.var 22) (.cons (.tup (.cons (.var 19) (.cons (.cI 1) .nil))) .nil)))
def C_law_changes_right_0 : E := .comp K_law_changes_right_0 (.name 22) .seq (.cons (.var 14) .nil) .yes [("a", 22)]
def K_law_changes_right_1 : E := (.call "_law_sum" (.cons (.lst (.cons (.idx (.var 14) (.var 4)) (.cons (.tup (.cons (.idx (.var 3) (.var 4)) (.cons (.cI 1) .nil))) .nil))) .nil))
def C_law_changes_right_1 : E := .comp K_law_changes_right_1 (.name 4) .range1 (.cons (.var 2) .nil) .yes [("k", 4)]
def K_law_changes_right_2 : E := (.call "mean_of" (.cons (.var 23) (.cons (.var 10) .nil)))
def C_law_changes_right_2 : E := .comp K_law_changes_right_2 (.name 10) .seq (.cons (.call "circles" (.cons (.var 23) .nil)) .nil) .yes [("circle", 10)]
def K_law_changes_right_3 : E := (.call "mean_of" (.cons (.var 1) (.cons (.var 10) .nil)))
def C_law_changes_right_3 : E := .comp K_law_changes_right_3 (.name 10) .seq (.cons (.var 6) .nil) .yes [("circle", 10)]
def K_law_changes_right_4 : E := (.idx (.idx (.var 1) (.var 8)) (.var 9))
def C_law_changes_right_4 : E := .comp K_law_changes_right_4 (.name 8) .range1 (.cons (.var 2) .nil) .yes [("j", 8)]
def K_law_changes_right_5 : E := (.blt .tuple (.cons C_law_changes_right_4 .nil))
def C_law_changes_right_5 : E := .comp K_law_changes_right_5 (.name 9) .range1 (.cons (.var 2) .nil) .yes [("i", 9)]
def K_law_changes_right_6 : E := (.ite (.isN (.var 22)) .cN (.bin .mul (.var 19) (.var 22)))
def C_law_changes_right_6 : E := .comp K_law_changes_right_6 (.name 22) .seq (.cons (.var 14) .nil) .yes [("a", 22)]
def K_law_changes_right_7 : E := (.blt .tuple (.cons C_law_changes_right_6 .nil))
def C_law_changes_right_7 : E := .comp K_law_changes_right_7 (.name 14) .seq (.cons (.var 1) .nil) .yes [("row", 14)]
def K_law_changes_right_8 : E := (.call "_law_plus" (.cons (.idx (.idx (.var 15) (.var 17)) (.var 4)) (.cons (.idx (.var 3) (.var 4)) .nil)))
def C_law_changes_right_8 : E := .comp K_law_changes_right_8 (.name 4) .range1 (.cons (.var 2) .nil) .yes [("k", 4)]
def K_law_changes_right_9 : E := (.cmp .ne (.idx (.var 16) (.var 17)) (.blt .tuple (.cons C_law_changes_right_8 .nil)))
def C_law_changes_right_9 : E := .comp K_law_changes_right_9 (.name 17) .range1 (.cons (.bin .add (.var 11) (.cI 1)) .nil) .yes [("n", 17)]
def K_law_changes_right_10 : E := (.bin .add (.idx (.var 14) (.var 4)) (.idx (.var 3) (.var 4)))
def C_law_changes_right_10 : E := .comp K_law_changes_right_10 (.name 4) .range1 (.cons (.var 2) .nil) .yes [("k", 4)]
def K_law_changes_right_11 : E := (.call "_law_take" (.cons (.var 0) (.cons (.cI 9) .nil)))
def C_law_changes_right_11 : E := .comp K_law_changes_right_11 (.name 4) .range1 (.cons (.var 2) .nil) .yes [("k", 4)]
def K_law_changes_right_12 : E := (.call "_law_plus" (.cons (.idx (.idx (.var 12) (.var 9)) (.var 8)) (.cons (.bin .sub (.idx (.var 3) (.var 9)) (.idx (.var 3) (.var 8))) .nil)))
def C_law_changes_right_12 : E := .comp K_law_changes_right_12 (.name 8) .range1 (.cons (.var 2) .nil) .yes [("j", 8)]
def K_law_changes_right_13 : E := (.blt .tuple (.cons C_law_changes_right_12 .nil))
def C_law_changes_right_13 : E := .comp K_law_changes_right_13 (.name 9) .range1 (.cons (.var 2) .nil) .yes [("i", 9)]
def K_law_changes_right_14 : E := (.cmp .ne (.call "mean_of" (.cons (.var 7) (.cons (.var 10) .nil))) (.call "mean_of" (.cons (.var 1) (.cons (.var 10) .nil))))
def C_law_changes_right_14 : E := .comp K_law_changes_right_14 (.name 10) .seq (.cons (.var 6) .nil) .yes [("circle", 10)]
def K_law_changes_right_15 : E := (.call "_law_plus" (.cons (.idx (.idx (.var 1) (.var 9)) (.var 8)) (.cons (.bin .sub (.idx (.var 3) (.var 9)) (.idx (.var 3) (.var 8))) .nil)))
def C_law_changes_right_15 : E := .comp K_law_changes_right_15 (.name 8) .range1 (.cons (.var 2) .nil) .yes [("j", 8)]
def K_law_changes_right_16 : E := (.blt .tuple (.cons C_law_changes_right_15 .nil))
def C_law_changes_right_16 : E := .comp K_law_changes_right_16 (.name 9) .range1 (.cons (.var 2) .nil) .yes [("i", 9)]
def K_law_changes_right_17 : E := (.bin .sub (.call "_law_take" (.cons (.var 0) (.cons (.cI 9) .nil))) (.cI 4))
def C_law_changes_right_17 : E := .comp K_law_changes_right_17 (.name 4) .range1 (.cons (.var 2) .nil) .yes [("k", 4)]
def A_law_changes_right : Ss :=
    (.cons (.set 2 (.blt .len (.cons (.var 1) .nil)))
    (.cons (.set 3 C_law_changes_right_17)
    (.cons (.par [5, 6] (.cons (.call "rate" (.cons (.var 1) .nil)) (.cons (.call "circles" (.cons (.var 1) .nil)) .nil)))
    (.cons (.set 7 (.blt .tuple (.cons C_law_changes_right_16 .nil)))
    (.cons (.ifS (.or_ (.cmp .ne (.call "rate" (.cons (.var 7) .nil)) (.var 5)) (.or_ (.cmp .ne (.call "circles" (.cons (.var 7) .nil)) (.var 6)) (.val (.blt .any (.cons C_law_changes_right_14 .nil))))) (.cons (.ret (.cB false))
    .nil) .nil)
    (.cons (.set 11 (.call "_law_take" (.cons (.var 0) (.cons (.cI 9) .nil))))
    (.cons (.par [12, 13] (.cons (.call "line_power" (.cons (.var 1) (.cons (.var 11) .nil))) (.cons (.call "line_power" (.cons (.var 7) (.cons (.var 11) .nil))) .nil)))
    (.cons (.ifS (.cmp .ne (.var 13) (.blt .tuple (.cons C_law_changes_right_13 .nil))) (.cons (.ret (.cB false))
    .nil) .nil)
    (.cons (.set 14 (.blt .tuple (.cons C_law_changes_right_11 .nil)))
    (.cons (.set 15 (.call "run_line" (.cons (.var 1) (.cons (.var 14) (.cons (.var 11) .nil)))))
    (.cons (.set 16 (.call "run_line" (.cons (.var 7) (.cons (.blt .tuple (.cons C_law_changes_right_10 .nil)) (.cons (.var 11) .nil)))))
    (.cons (.ifS (.val (.blt .any (.cons C_law_changes_right_9 .nil))) (.cons (.ret (.cB false))
    .nil) .nil)
    (.cons (.par [18, 19] (.cons (.bin .sub (.call "_law_take" (.cons (.var 0) (.cons (.cI 21) .nil))) (.cI 10)) (.cons (.bin .add (.cI 1) (.call "_law_take" (.cons (.var 0) (.cons (.cI 4) .nil)))) .nil)))
    (.cons (.set 20 (.call "moved_by" (.cons (.var 1) (.cons (.var 18) .nil))))
    (.cons (.set 21 (.blt .tuple (.cons C_law_changes_right_7 .nil)))
    (.cons (.set 23 (.blt .tuple (.cons C_law_changes_right_5 .nil)))
    (.cons (.ifS (.isN (.var 5)) (.cons (.ret (.and_ (.isN (.call "rate" (.cons (.var 20) .nil))) (.and_ (.isN (.call "rate" (.cons (.var 21) .nil))) (.and_ (.isN (.call "rate" (.cons (.var 23) .nil))) (.cmp .eq (.var 6) (.lst .nil))))))
    .nil) .nil)
    (.cons (.ifS (.or_ (.cmp .ne (.call "rate" (.cons (.var 20) .nil)) (.call "_law_sum" (.cons (.lst (.cons (.var 5) (.cons (.tup (.cons (.var 18) (.cons (.cI 1) .nil))) .nil))) .nil))) (.or_ (.cmp .ne (.call "rate" (.cons (.var 21) .nil)) (.call "_law_times" (.cons (.var 5) (.cons (.tup (.cons (.var 19) (.cons (.cI 1) .nil))) .nil)))) (.cmp .ne (.call "rate" (.cons (.var 23) .nil)) (.var 5)))) (.cons (.ret (.cB false))
    .nil) .nil)
    (.cons (.ifS (.or_ (.cmp .ne (.call "line_power" (.cons (.var 20) (.cons (.var 11) .nil))) (.call "moved_by" (.cons (.var 12) (.cons (.bin .mul (.var 18) (.var 11)) .nil)))) (.cmp .ne (.blt .sorted (.cons C_law_changes_right_2 .nil)) (.blt .sorted (.cons C_law_changes_right_3 .nil)))) (.cons (.ret (.cB false))
    .nil) .nil)
    (.cons (.unp (.tup [(.name 10), (.name 14)]) (.call "rate_paper" (.cons (.var 1) .nil)))
    (.cons (.set 24 (.blt .tuple (.cons C_law_changes_right_1 .nil)))
    (.cons (.ifS (.or_ (.p1 (.notB true) (.call "takes_rate" (.cons (.var 7) (.cons (.var 5) (.cons (.tup (.cons (.var 10) (.cons (.var 24) .nil))) .nil))))) (.p1 (.notB true) (.call "takes_rate" (.cons (.var 20) (.cons (.call "rate" (.cons (.var 20) .nil)) (.cons (.tup (.cons (.var 10) (.cons (.var 14) .nil))) .nil)))))) (.cons (.ret (.cB false))
    .nil) .nil)
    (.cons (.ifS (.p1 (.notB true) (.call "takes_rate" (.cons (.var 21) (.cons (.call "rate" (.cons (.var 21) .nil)) (.cons (.tup (.cons (.var 10) (.cons (.blt .tuple (.cons C_law_changes_right_0 .nil)) .nil))) .nil))))) (.cons (.ret (.cB false))
    .nil) .nil)
    (.cons (.ifS (.not_ (.val (.call "is_joined" (.cons (.var 1) .nil)))) (.cons (.ret (.and_ (.p1 (.isB false) (.call "is_joined" (.cons (.var 7) .nil))) (.p1 (.isB false) (.call "is_joined" (.cons (.var 23) .nil)))))
    .nil) .nil)
    (.cons (.set 25 (.call "_law_regime" (.cons (.var 1) .nil)))
    (.cons (.ifS (.isN (.var 25)) (.cons (.ret (.isN (.call "_law_regime" (.cons (.var 7) .nil))))
    .nil) .nil)
    (.cons (.unp (.tup [(.name 26), (.name 27), (.name 28)]) (.var 25))
    (.cons (.ifS (.or_ (.cmp .ne (.call "regime" (.cons (.var 7) .nil)) (.var 25)) (.or_ (.cmp .ne (.call "regime" (.cons (.var 20) .nil)) (.tup (.cons (.var 26) (.cons (.var 27) (.cons (.bin .add (.var 28) (.bin .mul (.var 27) (.var 18))) .nil))))) (.cmp .ne (.call "regime" (.cons (.var 21) .nil)) (.tup (.cons (.var 26) (.cons (.var 27) (.cons (.bin .mul (.var 19) (.var 28)) .nil))))))) (.cons (.ret (.cB false))
    .nil) .nil)
    (.cons (.ret (.cmp .eq (.call "regime" (.cons (.var 23) .nil)) (.var 25)))
    .nil)))))))))))))))))))))))))))))
def g_law_changes_right : Sig := ⟨[("_law_plus", 2), ("_law_regime", 1), ("_law_sum", 1), ("_law_take", 2), ("_law_times", 2), ("circles", 1), ("is_joined", 1), ("line_power", 2), ("mean_of", 2), ("moved_by", 2), ("rate", 1), ("rate_paper", 1), ("regime", 1), ("run_line", 3), ("takes_rate", 3)], [], []⟩
theorem chk_law_changes_right : chkSs g_law_changes_right ⟨N_law_changes_right, defScope (top 44), fun _ => true, none⟩ A_law_changes_right (defBody (top 44)) = true := by decide +kernel
def ix_law_changes_right : Nat := 44
/-! _law_names_right -/
def N_law_names_right : List Str := ["tape", "line", "more", "size", "left", "names", "k", "other", "j", "i", "circle", "wide", "row", "best", "told", "due"]
def B_law_names_right_0 : Ss :=
    (.cons (.set 15 (.ite (.or_ (.isN (.var 15)) (.cmp .gt (.bin .mul (.idx (.var 14) (.cI 0)) (.idx (.var 15) (.cI 1))) (.bin .mul (.idx (.var 15) (.cI 0)) (.idx (.var 14) (.cI 1))))) (.var 14) (.var 15)))
    .nil)
def K_law_names_right_0 : E := (.var 14)
def L_law_names_right_0 : T := (.notN (.var 14))
def C_law_names_right_0 : E := .comp K_law_names_right_0 (.name 14) .seq (.cons (.tup (.cons (.call "rate" (.cons (.var 1) .nil)) (.cons (.call "rate" (.cons (.var 2) .nil)) .nil))) .nil) L_law_names_right_0 [("told", 14)]
def K_law_names_right_1 : E := (.bin .add (.var 12) (.bin .mul (.tup (.cons .cN .nil)) (.blt .len (.cons (.var 2) .nil))))
def C_law_names_right_1 : E := .comp K_law_names_right_1 (.name 12) .seq (.cons (.var 1) .nil) .yes [("row", 12)]
def K_law_names_right_2 : E := (.bin .add (.bin .mul (.tup (.cons .cN .nil)) (.var 3)) (.var 12))
def C_law_names_right_2 : E := .comp K_law_names_right_2 (.name 12) .seq (.cons (.var 2) .nil) .yes [("row", 12)]
def K_law_names_right_3 : E := (.call "_law_renamed" (.cons (.var 10) (.cons (.var 5) .nil)))
def C_law_names_right_3 : E := .comp K_law_names_right_3 (.name 10) .seq (.cons (.call "circles" (.cons (.var 1) .nil)) .nil) .yes [("circle", 10)]
def K_law_names_right_4 : E := (.idx (.idx (.var 1) (.p2 .index (.var 5) (.var 9))) (.p2 .index (.var 5) (.var 8)))
def C_law_names_right_4 : E := .comp K_law_names_right_4 (.name 8) .range1 (.cons (.var 3) .nil) .yes [("j", 8)]
def K_law_names_right_5 : E := (.blt .tuple (.cons C_law_names_right_4 .nil))
def C_law_names_right_5 : E := .comp K_law_names_right_5 (.name 9) .range1 (.cons (.var 3) .nil) .yes [("i", 9)]
def B_law_names_right_1 : Ss :=
    (.cons (.append 5 (.popAt 4 (.call "_law_take" (.cons (.var 0) (.cons (.blt .len (.cons (.var 4) .nil)) .nil)))))
    .nil)
def A_law_names_right : Ss :=
    (.cons (.set 3 (.blt .len (.cons (.var 1) .nil)))
    (.cons (.par [4, 5] (.cons (.p1 .listRange (.var 3)) (.cons (.lst .nil) .nil)))
    (.cons (.forS (.name 6) .range1 (.cons (.var 3) .nil) B_law_names_right_1)
    (.cons (.set 7 (.blt .tuple (.cons C_law_names_right_5 .nil)))
    (.cons (.ifS (.or_ (.cmp .ne (.call "rate" (.cons (.var 7) .nil)) (.call "rate" (.cons (.var 1) .nil))) (.cmp .ne (.call "circles" (.cons (.var 7) .nil)) (.blt .sorted (.cons C_law_names_right_3 .nil)))) (.cons (.ret (.cB false))
    .nil) .nil)
    (.cons (.set 11 (.blt .tuple (.cons (.bin .add C_law_names_right_1 C_law_names_right_2) .nil)))
    (.cons (.set 13 C_law_names_right_0)
    (.cons (.set 15 .cN)
    (.cons (.forS (.name 14) .seq (.cons (.var 13) .nil) B_law_names_right_0)
    (.cons (.ret (.and_ (.cmp .eq (.call "rate" (.cons (.var 11) .nil)) (.var 15)) (.cmp .eq (.blt .len (.cons (.call "circles" (.cons (.var 11) .nil)) .nil)) (.bin .add (.blt .len (.cons (.call "circles" (.cons (.var 1) .nil)) .nil)) (.blt .len (.cons (.call "circles" (.cons (.var 2) .nil)) .nil))))))
    .nil))))))))))
def g_law_names_right : Sig := ⟨[("_law_renamed", 2), ("_law_take", 2), ("circles", 1), ("rate", 1)], [], []⟩
theorem chk_law_names_right : chkSs g_law_names_right ⟨N_law_names_right, defScope (top 45), fun _ => true, none⟩ A_law_names_right (defBody (top 45)) = true := by decide +kernel
def ix_law_names_right : Nat := 45
/-! _law_queues_right -/
def N_law_queues_right : List Str := ["tape", "times_v", "k", "window", "back", "comes", "now", "left", "order", "other", "told", "bent", "row", "by", "factor", "late", "time", "great", "wide", "n", "ends"]
def K_law_queues_right_0 : E := (.cmp .ge (.idx (.var 20) (.bin .add (.var 19) (.cI 1))) (.bin .add (.idx (.var 20) (.var 19)) (.blt .max (.cons (.var 1) .nil))))
def C_law_queues_right_0 : E := .comp K_law_queues_right_0 (.name 19) .range1 (.cons (.bin .sub (.blt .len (.cons (.var 20) .nil)) (.cI 1)) .nil) .yes [("n", 19)]
def K_law_queues_right_1 : E := (.cmp .ge (.idx (.var 20) (.var 19)) (.bin .add (.idx (.var 5) (.var 19)) (.blt .sum (.cons (.var 1) .nil))))
def C_law_queues_right_1 : E := .comp K_law_queues_right_1 (.name 19) .range1 (.cons (.blt .len (.cons (.var 20) .nil)) .nil) .yes [("n", 19)]
def K_law_queues_right_2 : E := (.idx (.var 12) (.neg (.cI 1)))
def C_law_queues_right_2 : E := .comp K_law_queues_right_2 (.name 12) .seq (.cons (.var 10) .nil) .yes [("row", 12)]
def K_law_queues_right_3 : E := (.cmp .gt (.idx (.idx (.var 18) (.var 19)) (.var 2)) (.idx (.idx (.var 10) (.var 19)) (.var 2)))
def C_law_queues_right_3 : E := .comp K_law_queues_right_3 (.name 2) .range1 (.cons (.blt .len (.cons (.var 1) .nil)) .nil) .yes [("k", 2)]
def B_law_queues_right_0 : Ss :=
    (.cons (.ifS (.val (.blt .any (.cons C_law_queues_right_3 .nil))) (.cons (.ret (.cB false))
    .nil) .nil)
    .nil)
def K_law_queues_right_4 : E := (.bin .mul (.var 14) (.var 16))
def C_law_queues_right_4 : E := .comp K_law_queues_right_4 (.name 16) .seq (.cons (.var 1) .nil) .yes [("time", 16)]
def K_law_queues_right_5 : E := (.bin .mul (.var 14) (.var 16))
def C_law_queues_right_5 : E := .comp K_law_queues_right_5 (.name 16) .seq (.cons (.var 12) .nil) .yes [("time", 16)]
def K_law_queues_right_6 : E := (.blt .tuple (.cons C_law_queues_right_5 .nil))
def C_law_queues_right_6 : E := .comp K_law_queues_right_6 (.name 12) .seq (.cons (.var 10) .nil) .yes [("row", 12)]
def K_law_queues_right_7 : E := (.bin .mul (.var 14) (.var 16))
def C_law_queues_right_7 : E := .comp K_law_queues_right_7 (.name 16) .seq (.cons (.var 5) .nil) .yes [("time", 16)]
def K_law_queues_right_8 : E := (.bin .mul (.var 14) (.var 16))
def C_law_queues_right_8 : E := .comp K_law_queues_right_8 (.name 16) .seq (.cons (.var 1) .nil) .yes [("time", 16)]
def K_law_queues_right_9 : E := (.bin .add (.var 16) (.var 13))
def C_law_queues_right_9 : E := .comp K_law_queues_right_9 (.name 16) .seq (.cons (.var 12) .nil) .yes [("time", 16)]
def K_law_queues_right_10 : E := (.blt .tuple (.cons C_law_queues_right_9 .nil))
def C_law_queues_right_10 : E := .comp K_law_queues_right_10 (.name 12) .seq (.cons (.var 10) .nil) .yes [("row", 12)]
def K_law_queues_right_11 : E := (.bin .add (.var 16) (.var 13))
def C_law_queues_right_11 : E := .comp K_law_queues_right_11 (.name 16) .seq (.cons (.var 5) .nil) .yes [("time", 16)]
def K_law_queues_right_12 : E := (.idx (.var 12) (.neg (.cI 1)))
def C_law_queues_right_12 : E := .comp K_law_queues_right_12 (.name 12) .seq (.cons (.var 10) .nil) .yes [("row", 12)]
def K_law_queues_right_13 : E := (.idx (.var 12) (.neg (.cI 1)))
def C_law_queues_right_13 : E := .comp K_law_queues_right_13 (.name 12) .seq (.cons (.var 11) .nil) .yes [("row", 12)]
def K_law_queues_right_14 : E := (.idx (.var 1) (.var 2))
def C_law_queues_right_14 : E := .comp K_law_queues_right_14 (.name 2) .seq (.cons (.var 8) .nil) .yes [("k", 2)]
def B_law_queues_right_1 : Ss :=
    (.cons (.append 8 (.popAt 7 (.call "_law_take" (.cons (.var 0) (.cons (.blt .len (.cons (.var 7) .nil)) .nil)))))
    .nil)
def B_law_queues_right_2 : Ss :=
    (.cons (.set 6 (.bin .add (.var 6) (.call "_law_take" (.cons (.var 0) (.cons (.cI 8) .nil)))))
    (.cons (.append 5 (.var 6))
    .nil))
def K_law_queues_right_15 : E := (.call "_law_take" (.cons (.var 0) (.cons (.cI 9) .nil)))
def C_law_queues_right_15 : E := .comp K_law_queues_right_15 (.name 2) .range1 (.cons (.bin .add (.cI 1) (.call "_law_take" (.cons (.var 0) (.cons (.cI 4) .nil)))) .nil) .yes [("k", 2)]
def A_law_queues_right : Ss :=
    (.cons (.set 1 (.blt .tuple (.cons C_law_queues_right_15 .nil)))
    (.cons (.par [3, 4] (.cons (.bin .add (.cI 1) (.call "_law_take" (.cons (.var 0) (.cons (.cI 6) .nil)))) (.cons (.call "_law_take" (.cons (.var 0) (.cons (.cI 12) .nil))) .nil)))
    (.cons (.par [5, 6] (.cons (.lst .nil) (.cons (.cI 0) .nil)))
    (.cons (.forS (.name 2) .range1 (.cons (.call "_law_take" (.cons (.var 0) (.cons (.cI 16) .nil))) .nil) B_law_queues_right_2)
    (.cons (.set 5 (.blt .tuple (.cons (.var 5) .nil)))
    (.cons (.par [7, 8] (.cons (.p1 .listRange (.blt .len (.cons (.var 1) .nil))) (.cons (.lst .nil) .nil)))
    (.cons (.forS (.name 2) .range1 (.cons (.blt .len (.cons (.var 1) .nil)) .nil) B_law_queues_right_1)
    (.cons (.set 9 (.blt .tuple (.cons C_law_queues_right_14 .nil)))
    (.cons (.par [10, 11] (.cons (.call "job_times" (.cons (.var 1) (.cons (.var 3) (.cons (.var 4) (.cons (.var 5) .nil))))) (.cons (.call "job_times" (.cons (.var 9) (.cons (.var 3) (.cons (.var 4) (.cons (.var 5) .nil))))) .nil)))
    (.cons (.ifS (.or_ (.cmp .ne C_law_queues_right_12 C_law_queues_right_13) (.cmp .ne (.call "waiting" (.cons (.var 9) (.cons (.var 3) (.cons (.var 4) (.cons (.var 5) .nil))))) (.call "waiting" (.cons (.var 1) (.cons (.var 3) (.cons (.var 4) (.cons (.var 5) .nil))))))) (.cons (.ret (.cB false))
    .nil) .nil)
    (.cons (.ifS (.or_ (.cmp .ne (.call "pace" (.cons (.var 9) (.cons (.var 3) (.cons (.var 4) .nil)))) (.call "pace" (.cons (.var 1) (.cons (.var 3) (.cons (.var 4) .nil))))) (.cmp .ne (.call "least_window" (.cons (.var 9) (.cons (.var 4) .nil))) (.call "least_window" (.cons (.var 1) (.cons (.var 4) .nil))))) (.cons (.ret (.cB false))
    .nil) .nil)
    (.cons (.par [13, 14] (.cons (.call "_law_take" (.cons (.var 0) (.cons (.cI 30) .nil))) (.cons (.bin .add (.cI 1) (.call "_law_take" (.cons (.var 0) (.cons (.cI 2) .nil)))) .nil)))
    (.cons (.set 15 (.call "job_times" (.cons (.var 1) (.cons (.var 3) (.cons (.var 4) (.cons (.blt .tuple (.cons C_law_queues_right_11 .nil)) .nil))))))
    (.cons (.ifS (.cmp .ne (.var 15) (.blt .tuple (.cons C_law_queues_right_10 .nil))) (.cons (.ret (.cB false))
    .nil) .nil)
    (.cons (.set 17 (.call "job_times" (.cons (.blt .tuple (.cons C_law_queues_right_8 .nil)) (.cons (.var 3) (.cons (.bin .mul (.var 14) (.var 4)) (.cons (.blt .tuple (.cons C_law_queues_right_7 .nil)) .nil))))))
    (.cons (.ifS (.cmp .ne (.var 17) (.blt .tuple (.cons C_law_queues_right_6 .nil))) (.cons (.ret (.cB false))
    .nil) .nil)
    (.cons (.ifS (.cmp .ne (.call "pace" (.cons (.blt .tuple (.cons C_law_queues_right_4 .nil)) (.cons (.var 3) (.cons (.bin .mul (.var 14) (.var 4)) .nil)))) (.call "_law_times" (.cons (.call "pace" (.cons (.var 1) (.cons (.var 3) (.cons (.var 4) .nil)))) (.cons (.tup (.cons (.var 14) (.cons (.cI 1) .nil))) .nil)))) (.cons (.ret (.cB false))
    .nil) .nil)
    (.cons (.ifS (.cmp .lt (.var 3) (.cI 6)) (.cons (.set 18 (.call "job_times" (.cons (.var 1) (.cons (.bin .add (.var 3) (.cI 1)) (.cons (.var 4) (.cons (.var 5) .nil))))))
    (.cons (.forS (.name 19) .range1 (.cons (.blt .len (.cons (.var 5) .nil)) .nil) B_law_queues_right_0)
    .nil)) .nil)
    (.cons (.set 20 C_law_queues_right_2)
    (.cons (.ret (.and_ (.blt .all (.cons C_law_queues_right_0 .nil)) (.blt .all (.cons C_law_queues_right_1 .nil))))
    .nil))))))))))))))))))))
def g_law_queues_right : Sig := ⟨[("_law_take", 2), ("_law_times", 2), ("job_times", 4), ("least_window", 2), ("pace", 3), ("waiting", 4)], [], []⟩
theorem chk_law_queues_right : chkSs g_law_queues_right ⟨N_law_queues_right, defScope (top 46), fun _ => true, none⟩ A_law_queues_right (defBody (top 46)) = true := by decide +kernel
def ix_law_queues_right : Nat := 46
/-! law -/
def N_law : List Str := ["script", "tape", "line", "more"]
def A_law : Ss :=
    (.cons (.par [2, 3] (.cons (.call "_law_line" (.cons (.var 1) (.cons (.bin .add (.cI 1) (.call "_law_take" (.cons (.var 1) (.cons (.cI 4) .nil)))) .nil))) (.cons (.call "_law_line" (.cons (.var 1) (.cons (.bin .add (.cI 1) (.call "_law_take" (.cons (.var 1) (.cons (.cI 2) .nil)))) .nil))) .nil)))
    (.cons (.ifS (.or_ (.not_ (.val (.call "_law_changes_right" (.cons (.var 1) (.cons (.var 2) .nil))))) (.not_ (.val (.call "_law_names_right" (.cons (.var 1) (.cons (.var 2) (.cons (.var 3) .nil))))))) (.cons (.ret (.cB false))
    .nil) .nil)
    (.cons (.ret (.call "_law_queues_right" (.cons (.var 1) .nil)))
    .nil)))
def g_law : Sig := ⟨[("_law_changes_right", 2), ("_law_line", 2), ("_law_names_right", 3), ("_law_queues_right", 1), ("_law_take", 2)], [], []⟩
theorem chk_law : chkSs g_law ⟨N_law, defScope (top 47), fun _ => true, none⟩ A_law ((defBody (top 47)).drop 1) = true := by decide +kernel
def ix_law : Nat := 47
end K42

set_option Elab.async false
set_option linter.all false
set_option maxRecDepth 100000
set_option maxHeartbeats 8000000
/-! K42m -/
namespace K42
open PySem PySem.Spec PyProof.Rows L2 Dv
def tab : Tab := [(("_law_queues_right" : Str), N_law_queues_right.length, A_law_queues_right), (("_law_names_right" : Str), N_law_names_right.length, A_law_names_right), (("_law_changes_right" : Str), N_law_changes_right.length, A_law_changes_right), (("_law_renamed" : Str), N_law_renamed.length, A_law_renamed), (("_law_regime" : Str), N_law_regime.length, A_law_regime), (("_law_plus" : Str), N_law_plus.length, A_law_plus), (("_law_line" : Str), N_law_line.length, A_law_line), (("_law_times" : Str), N_law_times.length, A_law_times), (("_law_sum" : Str), N_law_sum.length, A_law_sum), (("_law_ratio" : Str), N_law_ratio.length, A_law_ratio), (("_law_gcd" : Str), N_law_gcd.length, A_law_gcd), (("_law_take" : Str), N_law_take.length, A_law_take), (("waiting" : Str), N_waiting.length, A_waiting), (("least_window" : Str), N_least_window.length, A_least_window), (("pace" : Str), N_pace.length, A_pace), (("job_times" : Str), N_job_times.length, A_job_times), (("check_chain" : Str), N_check_chain.length, A_check_chain), (("regime" : Str), N_regime.length, A_regime), (("moved_by" : Str), N_moved_by.length, A_moved_by), (("is_joined" : Str), N_is_joined.length, A_is_joined), (("takes_rate" : Str), N_takes_rate.length, A_takes_rate), (("rate_paper" : Str), N_rate_paper.length, A_rate_paper), (("rate" : Str), N_rate.length, A_rate), (("mean_of" : Str), N_mean_of.length, A_mean_of), (("circles" : Str), N_circles.length, A_circles), (("run_line" : Str), N_run_line.length, A_run_line), (("line_power" : Str), N_line_power.length, A_line_power), (("line_product" : Str), N_line_product.length, A_line_product), (("line_image" : Str), N_line_image.length, A_line_image), (("joined" : Str), N_joined.length, A_joined), (("later" : Str), N_later.length, A_later), (("check_line" : Str), N_check_line.length, A_check_line), (("less" : Str), N_less.length, A_less), (("times" : Str), N_times.length, A_times), (("share" : Str), N_share.length, A_share)]
theorem tab_ok : tabOk tab = true := by decide +kernel
def Φ : Orc := orc tab
theorem Φ_law_queues_right : Φ "_law_queues_right" = Dv.run Φ N_law_queues_right.length A_law_queues_right := orc_eq tab_ok (List.mem_of_getElem? (i := 0) rfl)
theorem eq_law_queues_right : ∀ (xs : List Va) (τ : Tp), xs.length = 1 → Φ "_law_queues_right" xs τ = .stuck ∨ Dv.run Φ N_law_queues_right.length A_law_queues_right xs τ = Φ "_law_queues_right" xs τ := fun xs τ _ => .inr (by rw [Φ_law_queues_right])
theorem Φ_law_names_right : Φ "_law_names_right" = Dv.run Φ N_law_names_right.length A_law_names_right := orc_eq tab_ok (List.mem_of_getElem? (i := 1) rfl)
theorem eq_law_names_right : ∀ (xs : List Va) (τ : Tp), xs.length = 3 → Φ "_law_names_right" xs τ = .stuck ∨ Dv.run Φ N_law_names_right.length A_law_names_right xs τ = Φ "_law_names_right" xs τ := fun xs τ _ => .inr (by rw [Φ_law_names_right])
theorem Φ_law_changes_right : Φ "_law_changes_right" = Dv.run Φ N_law_changes_right.length A_law_changes_right := orc_eq tab_ok (List.mem_of_getElem? (i := 2) rfl)
theorem eq_law_changes_right : ∀ (xs : List Va) (τ : Tp), xs.length = 2 → Φ "_law_changes_right" xs τ = .stuck ∨ Dv.run Φ N_law_changes_right.length A_law_changes_right xs τ = Φ "_law_changes_right" xs τ := fun xs τ _ => .inr (by rw [Φ_law_changes_right])
theorem Φ_law_renamed : Φ "_law_renamed" = Dv.run Φ N_law_renamed.length A_law_renamed := orc_eq tab_ok (List.mem_of_getElem? (i := 3) rfl)
theorem eq_law_renamed : ∀ (xs : List Va) (τ : Tp), xs.length = 2 → Φ "_law_renamed" xs τ = .stuck ∨ Dv.run Φ N_law_renamed.length A_law_renamed xs τ = Φ "_law_renamed" xs τ := fun xs τ _ => .inr (by rw [Φ_law_renamed])
theorem Φ_law_regime : Φ "_law_regime" = Dv.run Φ N_law_regime.length A_law_regime := orc_eq tab_ok (List.mem_of_getElem? (i := 4) rfl)
theorem eq_law_regime : ∀ (xs : List Va) (τ : Tp), xs.length = 1 → Φ "_law_regime" xs τ = .stuck ∨ Dv.run Φ N_law_regime.length A_law_regime xs τ = Φ "_law_regime" xs τ := fun xs τ _ => .inr (by rw [Φ_law_regime])
theorem Φ_law_plus : Φ "_law_plus" = Dv.run Φ N_law_plus.length A_law_plus := orc_eq tab_ok (List.mem_of_getElem? (i := 5) rfl)
theorem eq_law_plus : ∀ (xs : List Va) (τ : Tp), xs.length = 2 → Φ "_law_plus" xs τ = .stuck ∨ Dv.run Φ N_law_plus.length A_law_plus xs τ = Φ "_law_plus" xs τ := fun xs τ _ => .inr (by rw [Φ_law_plus])
theorem Φ_law_line : Φ "_law_line" = Dv.run Φ N_law_line.length A_law_line := orc_eq tab_ok (List.mem_of_getElem? (i := 6) rfl)
theorem eq_law_line : ∀ (xs : List Va) (τ : Tp), xs.length = 2 → Φ "_law_line" xs τ = .stuck ∨ Dv.run Φ N_law_line.length A_law_line xs τ = Φ "_law_line" xs τ := fun xs τ _ => .inr (by rw [Φ_law_line])
theorem Φ_law_times : Φ "_law_times" = Dv.run Φ N_law_times.length A_law_times := orc_eq tab_ok (List.mem_of_getElem? (i := 7) rfl)
theorem eq_law_times : ∀ (xs : List Va) (τ : Tp), xs.length = 2 → Φ "_law_times" xs τ = .stuck ∨ Dv.run Φ N_law_times.length A_law_times xs τ = Φ "_law_times" xs τ := fun xs τ _ => .inr (by rw [Φ_law_times])
theorem Φ_law_sum : Φ "_law_sum" = Dv.run Φ N_law_sum.length A_law_sum := orc_eq tab_ok (List.mem_of_getElem? (i := 8) rfl)
theorem eq_law_sum : ∀ (xs : List Va) (τ : Tp), xs.length = 1 → Φ "_law_sum" xs τ = .stuck ∨ Dv.run Φ N_law_sum.length A_law_sum xs τ = Φ "_law_sum" xs τ := fun xs τ _ => .inr (by rw [Φ_law_sum])
theorem Φ_law_ratio : Φ "_law_ratio" = Dv.run Φ N_law_ratio.length A_law_ratio := orc_eq tab_ok (List.mem_of_getElem? (i := 9) rfl)
theorem eq_law_ratio : ∀ (xs : List Va) (τ : Tp), xs.length = 2 → Φ "_law_ratio" xs τ = .stuck ∨ Dv.run Φ N_law_ratio.length A_law_ratio xs τ = Φ "_law_ratio" xs τ := fun xs τ _ => .inr (by rw [Φ_law_ratio])
theorem Φ_law_gcd : Φ "_law_gcd" = Dv.run Φ N_law_gcd.length A_law_gcd := orc_eq tab_ok (List.mem_of_getElem? (i := 10) rfl)
theorem eq_law_gcd : ∀ (xs : List Va) (τ : Tp), xs.length = 2 → Φ "_law_gcd" xs τ = .stuck ∨ Dv.run Φ N_law_gcd.length A_law_gcd xs τ = Φ "_law_gcd" xs τ := fun xs τ _ => .inr (by rw [Φ_law_gcd])
theorem Φ_law_take : Φ "_law_take" = Dv.run Φ N_law_take.length A_law_take := orc_eq tab_ok (List.mem_of_getElem? (i := 11) rfl)
theorem eq_law_take : ∀ (xs : List Va) (τ : Tp), xs.length = 2 → Φ "_law_take" xs τ = .stuck ∨ Dv.run Φ N_law_take.length A_law_take xs τ = Φ "_law_take" xs τ := fun xs τ _ => .inr (by rw [Φ_law_take])
theorem Φ_waiting : Φ "waiting" = Dv.run Φ N_waiting.length A_waiting := orc_eq tab_ok (List.mem_of_getElem? (i := 12) rfl)
theorem eq_waiting : ∀ (xs : List Va) (τ : Tp), xs.length = 4 → Φ "waiting" xs τ = .stuck ∨ Dv.run Φ N_waiting.length A_waiting xs τ = Φ "waiting" xs τ := fun xs τ _ => .inr (by rw [Φ_waiting])
theorem Φ_least_window : Φ "least_window" = Dv.run Φ N_least_window.length A_least_window := orc_eq tab_ok (List.mem_of_getElem? (i := 13) rfl)
theorem eq_least_window : ∀ (xs : List Va) (τ : Tp), xs.length = 2 → Φ "least_window" xs τ = .stuck ∨ Dv.run Φ N_least_window.length A_least_window xs τ = Φ "least_window" xs τ := fun xs τ _ => .inr (by rw [Φ_least_window])
theorem Φ_pace : Φ "pace" = Dv.run Φ N_pace.length A_pace := orc_eq tab_ok (List.mem_of_getElem? (i := 14) rfl)
theorem eq_pace : ∀ (xs : List Va) (τ : Tp), xs.length = 3 → Φ "pace" xs τ = .stuck ∨ Dv.run Φ N_pace.length A_pace xs τ = Φ "pace" xs τ := fun xs τ _ => .inr (by rw [Φ_pace])
theorem Φ_job_times : Φ "job_times" = Dv.run Φ N_job_times.length A_job_times := orc_eq tab_ok (List.mem_of_getElem? (i := 15) rfl)
theorem eq_job_times : ∀ (xs : List Va) (τ : Tp), xs.length = 4 → Φ "job_times" xs τ = .stuck ∨ Dv.run Φ N_job_times.length A_job_times xs τ = Φ "job_times" xs τ := fun xs τ _ => .inr (by rw [Φ_job_times])
theorem Φ_check_chain : Φ "check_chain" = Dv.run Φ N_check_chain.length A_check_chain := orc_eq tab_ok (List.mem_of_getElem? (i := 16) rfl)
theorem eq_check_chain : ∀ (xs : List Va) (τ : Tp), xs.length = 3 → Φ "check_chain" xs τ = .stuck ∨ Dv.run Φ N_check_chain.length A_check_chain xs τ = Φ "check_chain" xs τ := fun xs τ _ => .inr (by rw [Φ_check_chain])
theorem Φ_regime : Φ "regime" = Dv.run Φ N_regime.length A_regime := orc_eq tab_ok (List.mem_of_getElem? (i := 17) rfl)
theorem eq_regime : ∀ (xs : List Va) (τ : Tp), xs.length = 1 → Φ "regime" xs τ = .stuck ∨ Dv.run Φ N_regime.length A_regime xs τ = Φ "regime" xs τ := fun xs τ _ => .inr (by rw [Φ_regime])
theorem Φ_moved_by : Φ "moved_by" = Dv.run Φ N_moved_by.length A_moved_by := orc_eq tab_ok (List.mem_of_getElem? (i := 18) rfl)
theorem eq_moved_by : ∀ (xs : List Va) (τ : Tp), xs.length = 2 → Φ "moved_by" xs τ = .stuck ∨ Dv.run Φ N_moved_by.length A_moved_by xs τ = Φ "moved_by" xs τ := fun xs τ _ => .inr (by rw [Φ_moved_by])
theorem Φ_is_joined : Φ "is_joined" = Dv.run Φ N_is_joined.length A_is_joined := orc_eq tab_ok (List.mem_of_getElem? (i := 19) rfl)
theorem eq_is_joined : ∀ (xs : List Va) (τ : Tp), xs.length = 1 → Φ "is_joined" xs τ = .stuck ∨ Dv.run Φ N_is_joined.length A_is_joined xs τ = Φ "is_joined" xs τ := fun xs τ _ => .inr (by rw [Φ_is_joined])
theorem Φ_takes_rate : Φ "takes_rate" = Dv.run Φ N_takes_rate.length A_takes_rate := orc_eq tab_ok (List.mem_of_getElem? (i := 20) rfl)
theorem eq_takes_rate : ∀ (xs : List Va) (τ : Tp), xs.length = 3 → Φ "takes_rate" xs τ = .stuck ∨ Dv.run Φ N_takes_rate.length A_takes_rate xs τ = Φ "takes_rate" xs τ := fun xs τ _ => .inr (by rw [Φ_takes_rate])
theorem Φ_rate_paper : Φ "rate_paper" = Dv.run Φ N_rate_paper.length A_rate_paper := orc_eq tab_ok (List.mem_of_getElem? (i := 21) rfl)
theorem eq_rate_paper : ∀ (xs : List Va) (τ : Tp), xs.length = 1 → Φ "rate_paper" xs τ = .stuck ∨ Dv.run Φ N_rate_paper.length A_rate_paper xs τ = Φ "rate_paper" xs τ := fun xs τ _ => .inr (by rw [Φ_rate_paper])
theorem Φ_rate : Φ "rate" = Dv.run Φ N_rate.length A_rate := orc_eq tab_ok (List.mem_of_getElem? (i := 22) rfl)
theorem eq_rate : ∀ (xs : List Va) (τ : Tp), xs.length = 1 → Φ "rate" xs τ = .stuck ∨ Dv.run Φ N_rate.length A_rate xs τ = Φ "rate" xs τ := fun xs τ _ => .inr (by rw [Φ_rate])
theorem Φ_mean_of : Φ "mean_of" = Dv.run Φ N_mean_of.length A_mean_of := orc_eq tab_ok (List.mem_of_getElem? (i := 23) rfl)
theorem eq_mean_of : ∀ (xs : List Va) (τ : Tp), xs.length = 2 → Φ "mean_of" xs τ = .stuck ∨ Dv.run Φ N_mean_of.length A_mean_of xs τ = Φ "mean_of" xs τ := fun xs τ _ => .inr (by rw [Φ_mean_of])
theorem Φ_circles : Φ "circles" = Dv.run Φ N_circles.length A_circles := orc_eq tab_ok (List.mem_of_getElem? (i := 24) rfl)
theorem eq_circles : ∀ (xs : List Va) (τ : Tp), xs.length = 1 → Φ "circles" xs τ = .stuck ∨ Dv.run Φ N_circles.length A_circles xs τ = Φ "circles" xs τ := fun xs τ _ => .inr (by rw [Φ_circles])
theorem Φ_run_line : Φ "run_line" = Dv.run Φ N_run_line.length A_run_line := orc_eq tab_ok (List.mem_of_getElem? (i := 25) rfl)
theorem eq_run_line : ∀ (xs : List Va) (τ : Tp), xs.length = 3 → Φ "run_line" xs τ = .stuck ∨ Dv.run Φ N_run_line.length A_run_line xs τ = Φ "run_line" xs τ := fun xs τ _ => .inr (by rw [Φ_run_line])
theorem Φ_line_power : Φ "line_power" = Dv.run Φ N_line_power.length A_line_power := orc_eq tab_ok (List.mem_of_getElem? (i := 26) rfl)
theorem eq_line_power : ∀ (xs : List Va) (τ : Tp), xs.length = 2 → Φ "line_power" xs τ = .stuck ∨ Dv.run Φ N_line_power.length A_line_power xs τ = Φ "line_power" xs τ := fun xs τ _ => .inr (by rw [Φ_line_power])
theorem Φ_line_product : Φ "line_product" = Dv.run Φ N_line_product.length A_line_product := orc_eq tab_ok (List.mem_of_getElem? (i := 27) rfl)
theorem eq_line_product : ∀ (xs : List Va) (τ : Tp), xs.length = 2 → Φ "line_product" xs τ = .stuck ∨ Dv.run Φ N_line_product.length A_line_product xs τ = Φ "line_product" xs τ := fun xs τ _ => .inr (by rw [Φ_line_product])
theorem Φ_line_image : Φ "line_image" = Dv.run Φ N_line_image.length A_line_image := orc_eq tab_ok (List.mem_of_getElem? (i := 28) rfl)
theorem eq_line_image : ∀ (xs : List Va) (τ : Tp), xs.length = 2 → Φ "line_image" xs τ = .stuck ∨ Dv.run Φ N_line_image.length A_line_image xs τ = Φ "line_image" xs τ := fun xs τ _ => .inr (by rw [Φ_line_image])
theorem Φ_joined : Φ "joined" = Dv.run Φ N_joined.length A_joined := orc_eq tab_ok (List.mem_of_getElem? (i := 29) rfl)
theorem eq_joined : ∀ (xs : List Va) (τ : Tp), xs.length = 2 → Φ "joined" xs τ = .stuck ∨ Dv.run Φ N_joined.length A_joined xs τ = Φ "joined" xs τ := fun xs τ _ => .inr (by rw [Φ_joined])
theorem Φ_later : Φ "later" = Dv.run Φ N_later.length A_later := orc_eq tab_ok (List.mem_of_getElem? (i := 30) rfl)
theorem eq_later : ∀ (xs : List Va) (τ : Tp), xs.length = 2 → Φ "later" xs τ = .stuck ∨ Dv.run Φ N_later.length A_later xs τ = Φ "later" xs τ := fun xs τ _ => .inr (by rw [Φ_later])
theorem Φ_check_line : Φ "check_line" = Dv.run Φ N_check_line.length A_check_line := orc_eq tab_ok (List.mem_of_getElem? (i := 31) rfl)
theorem eq_check_line : ∀ (xs : List Va) (τ : Tp), xs.length = 1 → Φ "check_line" xs τ = .stuck ∨ Dv.run Φ N_check_line.length A_check_line xs τ = Φ "check_line" xs τ := fun xs τ _ => .inr (by rw [Φ_check_line])
theorem Φ_less : Φ "less" = Dv.run Φ N_less.length A_less := orc_eq tab_ok (List.mem_of_getElem? (i := 32) rfl)
theorem eq_less : ∀ (xs : List Va) (τ : Tp), xs.length = 2 → Φ "less" xs τ = .stuck ∨ Dv.run Φ N_less.length A_less xs τ = Φ "less" xs τ := fun xs τ _ => .inr (by rw [Φ_less])
theorem Φ_times : Φ "times" = Dv.run Φ N_times.length A_times := orc_eq tab_ok (List.mem_of_getElem? (i := 33) rfl)
theorem eq_times : ∀ (xs : List Va) (τ : Tp), xs.length = 2 → Φ "times" xs τ = .stuck ∨ Dv.run Φ N_times.length A_times xs τ = Φ "times" xs τ := fun xs τ _ => .inr (by rw [Φ_times])
theorem Φ_share : Φ "share" = Dv.run Φ N_share.length A_share := orc_eq tab_ok (List.mem_of_getElem? (i := 34) rfl)
theorem eq_share : ∀ (xs : List Va) (τ : Tp), xs.length = 2 → Φ "share" xs τ = .stuck ∨ Dv.run Φ N_share.length A_share xs τ = Φ "share" xs τ := fun xs τ _ => .inr (by rw [Φ_share])
end K42

set_option Elab.async false
set_option linter.all false
set_option maxRecDepth 100000
set_option maxHeartbeats 1000000
namespace K42
open PySem PySem.Spec PyProof.Rows L2 Dv
def rowF : List Int → List Int → Int → List Int
  | [], _, _ => []
  | t :: ts, [], now => (now + t) :: rowF ts [] (now + t)
  | t :: ts, p :: ps, now => (max now p + t) :: rowF ts ps (max now p + t)
/-- the job ahead, the job w ahead -/
def prevF (found : List (List Int)) : List Int := if found.length = 0 then [] else found[found.length - 1]?.getD []
def startF (w : Nat) (back : Int) (found : List (List Int)) (start : Int) : Int := if w ≤ found.length then max start ((found[found.length - w]?.getD []).getLastD 0 + back) else start
def stepF (times : List Int) (w : Nat) (back : Int) (found : List (List Int)) (start : Int) : List (List Int) := found ++ [rowF times (prevF found) (startF w back found start)]
def jobsF (times : List Int) (w : Nat) (back : Int) (comes : List Int) : List (List Int) := comes.foldl (stepF times w back) []
theorem rowF_len : ∀ (ts ps : List Int) (now : Int), (rowF ts ps now).length = ts.length
  | [], _, _ => rfl
  | t :: ts, [], now => by simp [rowF, rowF_len ts]
  | t :: ts, p :: ps, now => by simp [rowF, rowF_len ts]
/-- all rows as long as the times -/
def Wide (m : Nat) (found : List (List Int)) : Prop := ∀ r ∈ found, r.length = m
theorem max_i (i j : Int) : (if j > i then j else i) = max i j := by omega
theorem inner (Φ : Orc) (τ : Tp) (a b c d e f : Option Sl) (found : List (List Int)) (st : Option Sl) : ∀ (ts ps : List Int) (k : Nat) (acc : List Int) (now : Int) (o1 o2 : Option Sl), acc.length + ts.length ≤ 1000 →
    (found.length = 0 ∧ ps = [] ∨ 0 < found.length ∧ ts.length ≤ ps.length ∧ ∃ row, found[found.length - 1]? = some row ∧ row.drop k = ps) →
    ∃ o3 o4, forLoop (exs Φ B_job_times_0) (.tup [.name 11, .name 12]) (enumD k (iL ts)) [a, b, c, d, e, f, sO (iR found), sI found.length, st, sI now, sO (iL acc), o1, o2] τ
      = .nx [a, b, c, d, e, f, sO (iR found), sI found.length, st, sI ((rowF ts ps now).getLastD now), sO (iL (acc ++ rowF ts ps now)), o3, o4] τ
  | [], ps, k, acc, now, o1, o2, _, _ => ⟨o1, o2, by simp [enumD, forLoop, rowF]⟩
  | t :: ts, ps, k, acc, now, o1, o2, hl, h => by
    rw [List.length_cons] at hl
    rcases h with ⟨h0, rfl⟩ | ⟨h0, hp, row, hr, hd⟩
    · have hn : ¬ (0 : Int) < found.length := by omega
      obtain ⟨o3, o4, h⟩ := inner Φ τ a b c d e f found st ts [] (k + 1) (acc ++ [now + t]) (now + t) (sI k) (sI t) (by simp; omega) (.inl ⟨h0, rfl⟩)
      refine ⟨o3, o4, ?_⟩
      have hb : exs Φ B_job_times_0 [a, b, c, d, e, f, sO (iR found), sI found.length, st, sI now, sO (iL acc), sI k, sI t] τ = .nx [a, b, c, d, e, f, sO (iR found), sI found.length, st, sI (now + t), sO (iL (acc ++ [now + t])), sI k, sI t] τ := by
        have : acc.length ≤ 100000 := by omega
        unfold B_job_times_0
        simp [exs, ex, ev, evA, evT, evP, evO, evI, look_br, look_own, share_br, slotOf_br, setAll, shareAll, hn, h0, this]
      simp only [iL, List.map_cons, enumD, forLoop, setTg, setTgs, Option.bind, List.set]
      rw [hb]
      dsimp only
      rw [h]
      simp only [rowF, List.getLastD_cons, List.append_assoc, List.cons_append, List.nil_append]
    · cases ps with
      | nil => simp at hp
      | cons p ps =>
        have hn : (0 : Int) < found.length := by omega
        have hk : row[k]? = some p := by
          have := congrArg (·[0]?) hd
          simpa using this
        have hd' : row.drop (k + 1) = ps := by
          rw [← List.tail_drop, hd]; rfl
        have hkl : k < row.length := by
          rcases Nat.lt_or_ge k row.length with h | h
          · exact h
          · rw [List.drop_eq_nil_of_le h] at hd; cases hd
        have e1 : atI (iR found) ((found.length : Int) - 1) = some (iT row) := by
          rw [show (found.length : Int) - 1 = ((found.length - 1 : Nat) : Int) by omega, at_nat (by simp; omega)]
          simp
          have := List.getElem?_eq_some_iff.mp hr
          obtain ⟨_, e⟩ := this
          exact congrArg iL e
        have e2 : atI (iL row) (k : Int) = some (.int p) := by
          rw [at_nat (by simpa using hkl)]
          obtain ⟨_, e⟩ := List.getElem?_eq_some_iff.mp hk
          simp [e]
        obtain ⟨o3, o4, h⟩ := inner Φ τ a b c d e f found st ts ps (k + 1) (acc ++ [max now p + t]) (max now p + t) (sI k) (sI t) (by simp; omega) (.inr ⟨h0, by simpa using hp, row, hr, hd'⟩)
        refine ⟨o3, o4, ?_⟩
        have hb : exs Φ B_job_times_0 [a, b, c, d, e, f, sO (iR found), sI found.length, st, sI now, sO (iL acc), sI k, sI t] τ = .nx [a, b, c, d, e, f, sO (iR found), sI found.length, st, sI (max now p + t), sO (iL (acc ++ [max now p + t])), sI k, sI t] τ := by
          have : acc.length ≤ 100000 := by omega
          unfold B_job_times_0
          simp [exs, ex, ev, evA, evT, evP, evO, evI, look_br, look_own, share_br, slotOf_br, setAll, shareAll, hn, h0, this, e1, e2]
        simp only [iL, List.map_cons, enumD, forLoop, setTg, setTgs, Option.bind, List.set]
        rw [hb]
        dsimp only
        rw [h]
        simp only [rowF, List.getLastD_cons, List.append_assoc, List.cons_append, List.nil_append]

/-- what the checks ask -/
structure Ch (times : List Int) (w : Nat) (back : Int) : Prop where
  l1 : 1 ≤ times.length
  l2 : times.length ≤ 4
  t0 : ∀ t ∈ times, 0 ≤ t ∧ t ≤ 30
  w1 : 1 ≤ w
  w2 : w ≤ 6
  b0 : 0 ≤ back
  b1 : back ≤ 30
theorem chain_ok {times : List Int} {w : Nat} {back : Int} (h : Ch times w back) (τ : Tp) : Φ "check_chain" [.d (iT times), .d (.int w), .d (.int back)] τ = .ok (.d .none) τ := by
  rw [Φ_check_chain]
  have c : ev Φ C_check_chain_0 [sD (iT times), sI w, sI back, none] τ = .ok (.fr (times.map fun t => PyData.bool (decide (0 ≤ t) && decide (t ≤ 30)))) [sD (iT times), sI w, sI back, none] τ := by
    refine comp_map (l := times) (φ := PyData.int) (env1 := [sD (iT times), sI w, sI back, none]) (envs := fun t => [sD (iT times), sI w, sI back, sI t]) ?_ rfl (by have := h.l2; omega) (fun a _ => rfl) (fun a _ => rfl) rfl (fun a _ => rfl) fun a _ => ?_
    · simp [exs, ex, ev, evA, evT, evP, evO, evI, look_br, look_own, share_br, slotOf_br, setAll, shareAll]
    · unfold K_check_chain_0
      by_cases h1 : 0 ≤ a <;> simp [exs, ex, ev, evA, evT, evP, evO, evI, look_br, look_own, share_br, slotOf_br, setAll, shareAll, h1]
  have a1 : (times.map fun t => decide (0 ≤ t) && decide (t ≤ 30)).all id = true := by
    simp [List.all_eq_true]
    exact fun t ht => h.t0 t ht
  have h1 := h.l1
  have h2 := h.l2
  have h3 := h.w1
  have h4 := h.w2
  have e1 : (1 : Int) ≤ times.length := by omega
  have e2 : (times.length : Int) ≤ 4 := by omega
  have e3 : (1 : Int) ≤ w := by omega
  have e4 : (w : Int) ≤ 6 := by omega
  simp [exs, ex, ev, evA, evT, evP, evO, evI, look_br, look_own, share_br, slotOf_br, setAll, shareAll, Dv.run, A_check_chain, N_check_chain, c, rb_all, boolsD_map2, a1, e1, e2, e3, e4, h.b0, h.b1]

theorem last_at {r : List Int} (h : r ≠ []) : atI (iL r) (-1) = some (.int (r.getLastD 0)) := by
  have hm : iL r ≠ [] := by simpa [iL] using h
  rw [at_last hm]
  simp [List.getLast?_eq_some_getLast h]
theorem wide_step {m : Nat} {times : List Int} {w : Nat} {back : Int} {found : List (List Int)} {start : Int} (hm : times.length = m) (h : Wide m found) : Wide m (stepF times w back found start) := fun r hr => by
  rcases List.mem_append.mp hr with hr | hr
  · exact h r hr
  · rw [List.mem_singleton] at hr
    rw [hr, rowF_len, hm]
/-- the row loop of one job, in both shapes -/
theorem prev_cases {times : List Int} {found : List (List Int)} (h : Wide times.length found) :
    found.length = 0 ∧ prevF found = [] ∨ 0 < found.length ∧ times.length ≤ (prevF found).length ∧ ∃ row, found[found.length - 1]? = some row ∧ row.drop 0 = prevF found := by
  unfold prevF
  by_cases h0 : found.length = 0
  · exact .inl ⟨h0, by simp [h0]⟩
  · have hl : found.length - 1 < found.length := by omega
    refine .inr ⟨by omega, ?_, found[found.length - 1], List.getElem?_eq_getElem hl, ?_⟩
    · rw [if_neg h0, List.getElem?_eq_getElem hl]
      exact Nat.le_of_eq (h _ (List.getElem_mem hl)).symm
    · rw [if_neg h0, List.getElem?_eq_getElem hl]
      simp
theorem ahead_at {m w : Nat} {found : List (List Int)} (hm : 1 ≤ m) (h : Wide m found) (h1 : 1 ≤ w) (hw : w ≤ found.length) : ∃ row, atI (iR found) ((found.length : Int) - w) = some (iT row) ∧ atI (iL row) (-1) = some (.int ((found[found.length - w]?.getD []).getLastD 0)) := by
  have hl : found.length - w < found.length := by omega
  refine ⟨found[found.length - w], ?_, ?_⟩
  · rw [show (found.length : Int) - w = ((found.length - w : Nat) : Int) by omega, at_nat (by simp; omega)]
    simp
  · rw [last_at (List.length_pos_iff.mp (by rw [h _ (List.getElem_mem hl)]; exact hm)), List.getElem?_eq_getElem hl]
    rfl
theorem outer (τ : Tp) (times : List Int) (w : Nat) (back : Int) (C a b : Option Sl) (hm : 1 ≤ times.length) (hm2 : times.length ≤ 900) (h1 : 1 ≤ w) : ∀ (comes : List Int) (found : List (List Int)) (o1 o2 o3 o4 o5 o6 : Option Sl), found.length + comes.length ≤ 1000 → Wide times.length found →
    ∃ p1 p2 p3 p4 p5 p6, forLoop (exs Φ B_job_times_1) (.tup [.name 7, .name 8]) (enumD found.length (iL comes)) [sD (iT times), sI w, sI back, C, a, b, sO (iR found), o1, o2, o3, o4, o5, o6] τ
      = .nx [sD (iT times), sI w, sI back, C, a, b, sO (iR (comes.foldl (stepF times w back) found)), p1, p2, p3, p4, p5, p6] τ
  | [], found, o1, o2, o3, o4, o5, o6, _, _ => ⟨_, _, _, _, _, _, rfl⟩
  | x :: comes, found, o1, o2, o3, o4, o5, o6, hl, hW => by
    rw [List.length_cons] at hl
    obtain ⟨q1, q2, hi⟩ := inner Φ τ (sD (iT times)) (sI w) (sI back) C a b found (sI x) times (prevF found) 0 [] (startF w back found x) o5 o6 (by simp; omega) (prev_cases hW)
    have hS : (stepF times w back found x).length = found.length + 1 := by simp [stepF]
    have eS : stepF times w back found x = found ++ [rowF times (prevF found) (startF w back found x)] := rfl
    obtain ⟨p1, p2, p3, p4, p5, p6, h⟩ := outer τ times w back C a b hm hm2 h1 comes (stepF times w back found x) (sI found.length) (sI x) (sI ((rowF times (prevF found) (startF w back found x)).getLastD (startF w back found x))) (sO (iL (rowF times (prevF found) (startF w back found x)))) q1 q2 (by rw [hS]; omega) (wide_step rfl hW)
    rw [hS] at h
    refine ⟨p1, p2, p3, p4, p5, p6, ?_⟩
    have hb : exs Φ B_job_times_1 [sD (iT times), sI w, sI back, C, a, b, sO (iR found), sI found.length, sI x, o3, o4, o5, o6] τ = .nx [sD (iT times), sI w, sI back, C, a, b, sO (iR (stepF times w back found x)), sI found.length, sI x, sI ((rowF times (prevF found) (startF w back found x)).getLastD (startF w back found x)), sO (iL (rowF times (prevF found) (startF w back found x))), q1, q2] τ := by
      have hf : found.length ≤ 100000 := by omega
      unfold B_job_times_1
      rw [eS]
      by_cases hw : w ≤ found.length
      · obtain ⟨row, e1, e2⟩ := ahead_at hm hW h1 hw
        have hw' : (w : Int) ≤ found.length := by omega
        have es : max x ((found[found.length - w]?.getD []).getLastD 0 + back) = startF w back found x := (if_pos hw).symm
        generalize startF w back found x = v at *
        generalize (found[found.length - w]?.getD []).getLastD 0 = z at *
        simp only [iL, List.map_nil, List.nil_append] at hi
        simp [exs, ex, ev, evA, evT, evP, evO, evI, look_br, look_own, share_br, slotOf_br, setAll, shareAll, hw', e1, e2, es, hi, hf]
      · have hw' : ¬ (w : Int) ≤ found.length := by omega
        have es : startF w back found x = x := if_neg hw
        rw [es] at hi ⊢
        simp only [iL, List.map_nil, List.nil_append] at hi
        simp [exs, ex, ev, evA, evT, evP, evO, evI, look_br, look_own, share_br, slotOf_br, setAll, shareAll, hw', hi, hf]
    simp only [iL, List.map_cons, enumD, forLoop, setTg, setTgs, Option.bind, List.set]
    rw [hb]
    dsimp only
    rw [List.foldl_cons, ← h]
end K42

set_option Elab.async false
set_option linter.all false
set_option maxRecDepth 100000
set_option maxHeartbeats 1000000
namespace K42
open PySem PySem.Spec PyProof.Rows L2 Dv
/-- in order -/
def Asc (comes : List Int) : Prop := ∀ p ∈ comes.dropLast.zip (comes.tail), p.1 ≤ p.2
theorem jobs_ok {times : List Int} {w : Nat} {back : Int} (h : Ch times w back) {comes : List Int} (hc : comes.length ≤ 60) (ha : Asc comes) (τ : Tp) : Φ "job_times" [.d (iT times), .d (.int w), .d (.int back), .d (iT comes)] τ = .ok (.d (iTT (jobsF times w back comes))) τ := by
  rw [Φ_job_times]
  let e0 : Dv.Env := [sD (iT times), sI w, sI back, sD (iT comes), none, none, none, none, none, none, none, none, none]
  have c : ev Φ C_job_times_0 e0 τ = .ok (.fr ((comes.dropLast.zip (comes.tail)).map fun p => PyData.bool (decide (p.1 ≤ p.2)))) e0 τ := by
    refine comp_map (l := comes.dropLast.zip (comes.tail)) (φ := fun p => .tuple [.int p.1, .int p.2]) (env1 := e0) (envs := fun p => [sD (iT times), sI w, sI back, sD (iT comes), sI p.1, sI p.2, none, none, none, none, none, none, none]) ?_ rfl (by simp; omega) (fun a _ => rfl) (fun a _ => rfl) rfl (fun a _ => rfl) fun a _ => ?_
    · simp [exs, ex, ev, evA, evT, evP, evO, evI, look_br, look_own, share_br, slotOf_br, setAll, shareAll, e0, cut_init, cut_tail]
      rw [← List.map_dropLast, ← List.map_tail, zipD_map]
    · unfold K_job_times_0
      simp [exs, ex, ev, evA, evT, evP, evO, evI, look_br, look_own, share_br, slotOf_br, setAll, shareAll]
  have a1 : ((comes.dropLast.zip (comes.tail)).map fun p => decide (p.1 ≤ p.2)).all id = true := by
    simp only [List.all_map, List.all_eq_true]
    exact fun p hp => decide_eq_true (ha p hp)
  have k := chain_ok h τ
  obtain ⟨p1, p2, p3, p4, p5, p6, ho⟩ := outer τ times w back (sD (iT comes)) none none h.l1 (by have := h.l2; omega) h.w1 comes [] none none none none none none (by simp; omega) (fun r hr => nomatch hr)
  have hc' : ¬ (60 : Int) < comes.length := by omega
  simp only [List.length_nil, iR, List.map_nil] at ho
  simp only [e0] at c
  simp [exs, ex, ev, evA, evT, evP, evO, evI, look_br, look_own, share_br, slotOf_br, setAll, shareAll, Dv.run, A_job_times, N_job_times, k, c, rb_all, boolsD_map2, a1, hc', ho, jobsF]
end K42

set_option Elab.async false
set_option linter.all false
set_option maxRecDepth 100000
set_option maxHeartbeats 1000000
namespace K42
open PySem PySem.Spec PyProof.Rows L2 Dv
open Fx (fr Sm)
theorem mk_share : Fx.Makes Φ "share" := fun n d τ h1 h2 => Fx.share_sp Φ_share h1 h2 τ
theorem mk_ratio : Fx.Makes Φ "_law_ratio" := fun n d τ h1 h2 => Fx.ratio_sp Φ_law_ratio Φ_law_gcd h1 h2 τ
def mx : List Int → Int
  | [] => 0
  | t :: ts => maxI t ts
theorem mx_le {times : List Int} (h : times ≠ []) {z : Int} : mx times ≤ z ↔ ∀ t ∈ times, t ≤ z := by
  cases times with
  | nil => exact absurd rfl h
  | cons t ts => simp [mx, maxI_le]
theorem mx_mem {times : List Int} (h : times ≠ []) : mx times ∈ times := by
  cases times with
  | nil => exact absurd rfl h
  | cons t ts =>
    show maxI t ts ∈ _
    rcases maxI_mem (i := t) (r := ts) with h | h
    · rw [h]; exact List.mem_cons_self
    · exact List.mem_cons_of_mem _ h
theorem max_bl {times : List Int} (h : times ≠ []) : bltD .max [iT times] = some (.sh (.d (.int (mx times)))) := by
  cases times with
  | nil => exact absurd rfl h
  | cons t ts => exact rb_max_t _ (k := t) (l := ts) (intsD_map (t :: ts))
theorem sum_bl {times : List Int} : bltD .sum [iT times] = some (.sh (.d (.int times.sum))) := rb_sum_t _ (intsD_map times)
theorem Ch.ne {times : List Int} {w : Nat} {back : Int} (h : Ch times w back) : times ≠ [] := List.length_pos_iff.mp h.l1
theorem sum_lo : ∀ {times : List Int}, (∀ t ∈ times, 0 ≤ t) → 0 ≤ times.sum
  | [], _ => by simp
  | t :: ts, h => by
    rw [List.sum_cons]
    have := h t (by simp)
    have := sum_lo (times := ts) fun x hx => h x (by simp [hx])
    omega
theorem sum_hi : ∀ {times : List Int}, (∀ t ∈ times, t ≤ 30) → times.sum ≤ 30 * times.length
  | [], _ => by simp
  | t :: ts, h => by
    rw [List.sum_cons, List.length_cons]
    have := h t (by simp)
    have := sum_hi (times := ts) fun x hx => h x (by simp [hx])
    omega
theorem Ch.mx0 {times : List Int} {w : Nat} {back : Int} (h : Ch times w back) : 0 ≤ mx times := (h.t0 _ (mx_mem h.ne)).1
theorem Ch.mx1 {times : List Int} {w : Nat} {back : Int} (h : Ch times w back) : mx times ≤ 30 := (h.t0 _ (mx_mem h.ne)).2
theorem Ch.s0 {times : List Int} {w : Nat} {back : Int} (h : Ch times w back) : 0 ≤ times.sum := sum_lo fun t ht => (h.t0 t ht).1
theorem Ch.s1 {times : List Int} {w : Nat} {back : Int} (h : Ch times w back) : times.sum ≤ 120 := by
  have := sum_hi fun t ht => (h.t0 t ht).2
  have := h.l2
  omega
def turnF (times : List Int) (w : Nat) (back : Int) : Rat := Rat.divInt (times.sum + back) w
def bestF (times : List Int) (w : Nat) (back : Int) : Rat := if (mx times : Rat) < turnF times w back then turnF times w back else mx times
theorem Ch.smM {times : List Int} {w : Nat} {back : Int} (h : Ch times w back) : Sm 8 (mx times : Rat) := Sm.int (by have := h.mx0; have := h.mx1; omega) (by decide)
theorem Ch.smT {times : List Int} {w : Nat} {back : Int} (h : Ch times w back) : Sm 8 (turnF times w back) := Sm.divInt (by have := h.s0; have := h.s1; have := h.b0; have := h.b1; omega) (by have := h.w2; omega) (by have := h.w1; omega)
theorem Ch.smB {times : List Int} {w : Nat} {back : Int} (h : Ch times w back) : Sm 8 (bestF times w back) := by
  unfold bestF
  split
  · exact h.smT
  · exact h.smM
theorem less_ok {k m : Nat} {p q : Rat} (h1 : Sm k p) (h2 : Sm m q) (hk : k + m ≤ 4000) (τ : Tp) : Φ "less" [.d (fr p), .d (fr q)] τ = .ok (.d (.bool (decide (p < q)))) τ := by
  rw [Φ_less]; exact Fx.less_run h1 h2 hk τ
theorem ltimes_ok {k m : Nat} {p q : Rat} (h1 : Sm k p) (h2 : Sm m q) (hk : k + m ≤ 4000) (τ : Tp) : Φ "_law_times" [.d (fr p), .d (fr q)] τ = .ok (.d (fr (p * q))) τ := by
  rw [Φ_law_times]; exact Fx.mul_run mk_ratio h1 h2 hk τ
theorem lsum_ok {k : Nat} {l : List Rat} (hl : ∀ q ∈ l, Sm k q) (hk : 1 + l.length * (k + 1) ≤ 4000) (τ : Tp) : Φ "_law_sum" [.d (.list (l.map fr))] τ = .ok (.d (fr (Fx.sumR l))) τ := by
  rw [Φ_law_sum]; exact Fx.sum_run mk_ratio hl hk τ
theorem pace_ok {times : List Int} {w : Nat} {back : Int} (h : Ch times w back) (τ : Tp) : Φ "pace" [.d (iT times), .d (.int w), .d (.int back)] τ = .ok (.d (fr (bestF times w back))) τ := by
  rw [Φ_pace]
  have k := chain_ok h τ
  have e1 := max_bl h.ne
  have e2 := sum_bl (times := times)
  have e3 : Φ "share" [.d (.int (times.sum + back)), .d (.int w)] τ = .ok (.d (fr (turnF times w back))) τ := mk_share _ _ τ (by have := h.w1; omega) (Fx.sm_of (k := 8) (by have := h.w2; omega) (by omega))
  have e4 := less_ok h.smM h.smT (by omega) τ
  unfold bestF
  by_cases c : (mx times : Rat) < turnF times w back
  · simp only [c, decide_true] at e4
    simp [exs, ex, ev, evA, evT, evP, evO, evI, look_br, look_own, share_br, slotOf_br, setAll, shareAll, Dv.run, A_pace, N_pace, k, e1, e2, Fx.fr_int, e3, e4, c]
  · simp only [c, decide_false] at e4
    simp [exs, ex, ev, evA, evT, evP, evO, evI, look_br, look_own, share_br, slotOf_br, setAll, shareAll, Dv.run, A_pace, N_pace, k, e1, e2, Fx.fr_int, e3, e4, c]
theorem eqv_fr (p q : Rat) : PyData.eqv (fr p) (fr q) = decide (p = q) := by
  simp only [fr, PyData.eqv, PyData.eqvAll, Bool.and_true, eqv_int]
  rw [Bool.eq_iff_iff]
  simp
  constructor
  · rintro ⟨h1, h2⟩
    exact Rat.ext h1 (by omega)
  · rintro rfl
    exact ⟨rfl, rfl⟩
theorem cmp_eq_fr (p q : Rat) : cmpD .eq (fr p) (fr q) = some (decide (p = q)) := by
  simp [cmpD, (lay_fr p).shaped, (lay_fr q).shaped, eqv_fr]
theorem cmp_ne_fr (p q : Rat) : cmpD .ne (fr p) (fr q) = some (!decide (p = q)) := by
  simp [cmpD, (lay_fr p).shaped, (lay_fr q).shaped, eqv_fr]

theorem least_loop {times : List Int} {back : Int} (τ : Tp) : ∀ (l : List Nat) (o : Option Sl), (∀ w ∈ l, Ch times w back) →
    ∃ o', forLoop (exs Φ B_least_window_0) (.name 2) (l.map fun (w : Nat) => PyData.int w) [sD (iT times), sI back, o] τ = match l.find? fun w => decide (bestF times w back = mx times) with
      | some w => .ret (.d (.int (w : Nat))) τ
      | none => .nx [sD (iT times), sI back, o'] τ
  | [], o, _ => ⟨o, rfl⟩
  | w :: l, o, h => by
    have hw := h w List.mem_cons_self
    obtain ⟨o', e⟩ := least_loop τ l (sI w) fun x hx => h x (List.mem_cons_of_mem _ hx)
    refine ⟨o', ?_⟩
    have hb : exs Φ B_least_window_0 [sD (iT times), sI back, sI w] τ = if bestF times w back = mx times then .ret (.d (.int w)) τ else .nx [sD (iT times), sI back, sI w] τ := by
      unfold B_least_window_0
      by_cases c : bestF times w back = mx times
      · simp [exs, ex, ev, evA, evT, evP, evO, evI, look_br, look_own, share_br, slotOf_br, setAll, shareAll, chain_ok hw τ, pace_ok hw τ, max_bl hw.ne, Fx.fr_int, cmp_eq_fr, c]
      · simp [exs, ex, ev, evA, evT, evP, evO, evI, look_br, look_own, share_br, slotOf_br, setAll, shareAll, chain_ok hw τ, pace_ok hw τ, max_bl hw.ne, Fx.fr_int, cmp_eq_fr, c]
    simp only [List.map_cons, forLoop, setTg, List.set]
    rw [hb]
    by_cases c : bestF times w back = mx times
    · simp [c]
    · simp [c, e]
def leastF (times : List Int) (back : Int) : D := match [1, 2, 3, 4, 5, 6].find? fun w => decide (bestF times w back = mx times) with
  | some w => .int (w : Nat)
  | none => .none
theorem least_ok {times : List Int} {back : Int} (h : ∀ w, 1 ≤ w → w ≤ 6 → Ch times w back) (τ : Tp) : Φ "least_window" [.d (iT times), .d (.int back)] τ = .ok (.d (leastF times back)) τ := by
  rw [Φ_least_window]
  obtain ⟨o, e⟩ := least_loop (times := times) (back := back) τ [1, 2, 3, 4, 5, 6] none (by
    intro w hw
    refine h w ?_ ?_ <;> (simp at hw; omega))
  have r : itemsD .range2 [.int 1, .int 7] = some ([1, 2, 3, 4, 5, 6].map fun (w : Nat) => PyData.int w) := rfl
  obtain ⟨L, hL⟩ : ∃ L, L = [1, 2, 3, 4, 5, 6].map fun (w : Nat) => PyData.int w := ⟨_, rfl⟩
  rw [← hL] at e r
  unfold leastF
  generalize ([1, 2, 3, 4, 5, 6].find? fun w => decide (bestF times w back = mx times)) = z at *
  cases z with
  | none => 
    simp only at e
    simp [exs, ex, ev, evA, evT, evP, evO, evI, look_br, look_own, share_br, slotOf_br, setAll, shareAll, Dv.run, A_least_window, N_least_window, r, e]
  | some w =>
    simp only at e
    simp [exs, ex, ev, evA, evT, evP, evO, evI, look_br, look_own, share_br, slotOf_br, setAll, shareAll, Dv.run, A_least_window, N_least_window, r, e]
/-! ### waiting -/
def waitF (times : List Int) (w : Nat) (back : Int) (comes : List Int) : List Int := ((jobsF times w back comes).zip comes).map fun p => p.1.getLastD 0 - p.2 - times.sum
theorem foldl_wide {times : List Int} {w : Nat} {back : Int} : ∀ (cs : List Int) (found : List (List Int)), Wide times.length found → Wide times.length (cs.foldl (stepF times w back) found) ∧ (cs.foldl (stepF times w back) found).length = found.length + cs.length
  | [], found, h => ⟨h, rfl⟩
  | x :: cs, found, h => by
    obtain ⟨a, b⟩ := foldl_wide cs (stepF times w back found x) (wide_step rfl h)
    refine ⟨a, ?_⟩
    rw [List.foldl_cons, b]
    simp [stepF]
    omega
theorem jobs_wide (times : List Int) (w : Nat) (back : Int) (comes : List Int) : Wide times.length (jobsF times w back comes) := (foldl_wide comes [] (fun r hr => nomatch hr)).1
theorem jobs_len (times : List Int) (w : Nat) (back : Int) (comes : List Int) : (jobsF times w back comes).length = comes.length := by
  have := (foldl_wide (times := times) (w := w) (back := back) comes [] (fun r hr => nomatch hr)).2
  unfold jobsF
  simpa using this
theorem waiting_ok {times : List Int} {w : Nat} {back : Int} (h : Ch times w back) {comes : List Int} (hc : comes.length ≤ 60) (ha : Asc comes) (τ : Tp) : Φ "waiting" [.d (iT times), .d (.int w), .d (.int back), .d (iT comes)] τ = .ok (.d (iT (waitF times w back comes))) τ := by
  rw [Φ_waiting]
  let e0 : Dv.Env := [sD (iT times), sI w, sI back, sD (iT comes), sD (iTT (jobsF times w back comes)), none, none]
  have c : ev Φ C_waiting_0 e0 τ = .ok (.fr (((jobsF times w back comes).zip comes).map fun p => PyData.int (p.1.getLastD 0 - p.2 - times.sum))) e0 τ := by
    refine comp_map (l := (jobsF times w back comes).zip comes) (φ := fun p => .tuple [iT p.1, .int p.2]) (env1 := e0) (envs := fun p => [sD (iT times), sI w, sI back, sD (iT comes), sD (iTT (jobsF times w back comes)), sD (iT p.1), sI p.2]) ?_ rfl (by simp; omega) (fun a _ => rfl) (fun a _ => rfl) rfl (fun a _ => rfl) fun a ha => ?_
    · simp [exs, ex, ev, evA, evT, evP, evO, evI, look_br, look_own, share_br, slotOf_br, setAll, shareAll, e0]
      rw [zipD_map]
    · have hm : a.1 ∈ jobsF times w back comes := (List.of_mem_zip ha).1
      have hl := jobs_wide times w back comes a.1 hm
      have e := last_at (r := a.1) (List.length_pos_iff.mp (by have := h.l1; omega))
      unfold K_waiting_0
      simp [exs, ex, ev, evA, evT, evP, evO, evI, look_br, look_own, share_br, slotOf_br, setAll, shareAll, e, sum_bl]
  have j := jobs_ok h hc ha τ
  simp only [e0] at c
  simp [exs, ex, ev, evA, evT, evP, evO, evI, look_br, look_own, share_br, slotOf_br, setAll, shareAll, Dv.run, A_waiting, N_waiting, j, c, waitF]
end K42

set_option Elab.async false
set_option linter.all false
set_option maxRecDepth 100000
set_option maxHeartbeats 1000000
namespace K42
open PySem PySem.Spec PyProof.Rows L2 Dv
open Fx (fr Sm)
/-! ### rows -/
theorem row_last : ∀ (ts ps : List Int) (now : Int), (∀ t ∈ ts, 0 ≤ t) → now + ts.sum ≤ (rowF ts ps now).getLastD now
  | [], _, now, _ => by simp [rowF]
  | t :: ts, [], now, h => by
    have := row_last ts [] (now + t) fun x hx => h x (List.mem_cons_of_mem _ hx)
    simp only [rowF, List.getLastD_cons, List.sum_cons]
    omega
  | t :: ts, p :: ps, now, h => by
    have := row_last ts ps (max now p + t) fun x hx => h x (List.mem_cons_of_mem _ hx)
    simp only [rowF, List.getLastD_cons, List.sum_cons]
    omega
theorem row_ne {ts : List Int} (h : ts ≠ []) (ps : List Int) (now : Int) : rowF ts ps now ≠ [] := by
  have := rowF_len ts ps now
  intro e
  rw [e] at this
  exact h (List.length_eq_zero_iff.mp this.symm)
theorem lastD_ne {l : List Int} (h : l ≠ []) (a b : Int) : l.getLastD a = l.getLastD b := by
  cases l with
  | nil => exact absurd rfl h
  | cons x r => rw [List.getLastD_cons, List.getLastD_cons]
theorem row_mono : ∀ (ts ps : List Int) (now : Int), (∀ t ∈ ts, 0 ≤ t) → ps.length = ts.length → ∀ z, ts ≠ [] → ps.getLastD z ≤ (rowF ts ps now).getLastD now
  | [], _, _, _, _, _, h => absurd rfl h
  | [t], [p], now, h, _, z, _ => by
    have := h t (by simp)
    simp [rowF]; omega
  | t :: t2 :: ts, p :: ps, now, h, hl, z, _ => by
    have := row_mono (t2 :: ts) ps (max now p + t) (fun x hx => h x (List.mem_cons_of_mem _ hx)) (by simpa using hl) p (by simp)
    simp only [rowF, List.getLastD_cons] at this ⊢
    exact this
/-- c times each time is in the row by then -/
def Ab : List Int → List Int → Int → Prop
  | t :: ts, r :: rs, c => c * t ≤ r ∧ Ab ts rs c
  | _, _, _ => True
theorem row_ab : ∀ (ts ps : List Int) (now c : Int), (∀ t ∈ ts, 0 ≤ t) → 0 ≤ now → (ps = [] ∧ c = 0 ∨ ps.length = ts.length) → Ab ts ps c → Ab ts (rowF ts ps now) (c + 1) ∧ ∀ t ∈ ts, (c + 1) * t ≤ (rowF ts ps now).getLastD now
  | [], _, _, _, _, _, _, _ => ⟨trivial, fun _ h => nomatch h⟩
  | t :: ts, [], now, c, h, hn, hp, _ => by
    have ht := h t (by simp)
    have hc : c = 0 := by
      rcases hp with hp | hp
      · exact hp.2
      · simp at hp
    subst hc
    have hs : ∀ x ∈ ts, 0 ≤ x := fun x hx => h x (List.mem_cons_of_mem _ hx)
    obtain ⟨a, b⟩ := row_ab ts [] (now + t) 0 hs (by omega) (.inl ⟨rfl, rfl⟩) (by cases ts <;> trivial)
    have l := row_last ts [] (now + t) hs
    have := sum_lo hs
    refine ⟨⟨by omega, a⟩, fun x hx => ?_⟩
    simp only [rowF, List.getLastD_cons]
    rcases List.mem_cons.mp hx with rfl | hx
    · omega
    · exact b x hx
  | t :: ts, p :: ps, now, c, h, hn, hp, hA => by
    have ht := h t (by simp)
    have hs : ∀ x ∈ ts, 0 ≤ x := fun x hx => h x (List.mem_cons_of_mem _ hx)
    have hl : ps.length = ts.length := by
      rcases hp with hp | hp
      · cases hp.1
      · simpa using hp
    obtain ⟨a, b⟩ := row_ab ts ps (max now p + t) c hs (by omega) (.inr hl) hA.2
    have l := row_last ts ps (max now p + t) hs
    have := sum_lo hs
    have h1 := hA.1
    have e : (c + 1) * t = c * t + t := by rw [Int.add_mul, Int.one_mul]
    refine ⟨⟨by omega, a⟩, fun x hx => ?_⟩
    simp only [rowF, List.getLastD_cons]
    rcases List.mem_cons.mp hx with rfl | hx
    · omega
    · exact b x hx
/-- from above, w times all -/
def Bel (w : Int) : List Int → List Int → Int → Prop
  | t :: ts, r :: rs, A => w * r ≤ A + w * t ∧ Bel w ts rs (A + w * t)
  | _, _, _ => True
theorem row_bel {w d : Int} (hw : 0 ≤ w) : ∀ (ts ps : List Int) (now A : Int), (∀ t ∈ ts, w * t ≤ d) → w * now ≤ A → Bel w ts ps (A - d) → Bel w ts (rowF ts ps now) A
  | [], _, _, _, _, _, _ => by unfold rowF; trivial
  | t :: ts, [], now, A, h, hn, _ => by
    have e : w * (now + t) = w * now + w * t := Int.mul_add ..
    exact ⟨by omega, row_bel hw ts [] (now + t) (A + w * t) (fun x hx => h x (List.mem_cons_of_mem _ hx)) (by omega) (by cases ts <;> trivial)⟩
  | t :: ts, p :: ps, now, A, h, hn, hb => by
    have h1 := h t (by simp)
    have h2 := hb.1
    have h3 := hb.2
    have e0 : w * max now p ≤ A := by
      rcases Int.le_total now p with k | k
      · rw [Int.max_eq_right k]; omega
      · rw [Int.max_eq_left k]; omega
    have e : w * (max now p + t) = w * max now p + w * t := Int.mul_add ..
    exact ⟨by omega, row_bel hw ts ps (max now p + t) (A + w * t) (fun x hx => h x (List.mem_cons_of_mem _ hx)) (by omega) (by rw [show A + w * t - d = A - d + w * t by omega]; exact h3)⟩
theorem bel_last {w : Int} : ∀ (ts rs : List Int) (A z : Int), rs.length = ts.length → Bel w ts rs A → w * z ≤ A → w * rs.getLastD z ≤ A + w * ts.sum
  | [], [], A, z, _, _, h => by simpa using h
  | t :: ts, r :: rs, A, z, hl, hb, _ => by
    have := bel_last ts rs (A + w * t) r (by simpa using hl) hb.2 hb.1
    rw [List.getLastD_cons, List.sum_cons, Int.mul_add]
    omega
/-! ### the jobs, one by one -/
theorem jobs_take (times : List Int) (w : Nat) (back : Int) : ∀ (cs : List Int) (found : List (List Int)), ∃ r, cs.foldl (stepF times w back) found = found ++ r
  | [], found => ⟨[], by simp⟩
  | x :: cs, found => by
    obtain ⟨r, e⟩ := jobs_take times w back cs (stepF times w back found x)
    exact ⟨[rowF times (prevF found) (startF w back found x)] ++ r, by rw [List.foldl_cons, e]; simp [stepF]⟩
theorem jobs_get {times : List Int} {w : Nat} {back : Int} : ∀ (cs : List Int) (found : List (List Int)) (n : Nat), (hn : n < cs.length) → Wide times.length found →
    let J := cs.foldl (stepF times w back) found
    J[found.length + n]? = some (rowF times (prevF (J.take (found.length + n))) (startF w back (J.take (found.length + n)) cs[n]))
  | [], _, n, hn, _ => absurd hn (by simp)
  | x :: cs, found, 0, hn, hW => by
    obtain ⟨r, e⟩ := jobs_take times w back cs (stepF times w back found x)
    simp only [List.foldl_cons, Nat.add_zero]
    rw [e]
    have e1 : (stepF times w back found x ++ r).take found.length = found := by simp [stepF]
    rw [e1]
    simp [stepF]
  | x :: cs, found, n + 1, hn, hW => by
    have := jobs_get (times := times) (w := w) (back := back) cs (stepF times w back found x) n (by simpa using hn) (wide_step rfl hW)
    simp only [show (stepF times w back found x).length = found.length + 1 by simp [stepF]] at this
    rw [show found.length + 1 + n = found.length + (n + 1) by omega] at this
    exact this
/-- the row of job n -/
def rowN (J : List (List Int)) (n : Nat) : List Int := J[n]?.getD []
def endN (J : List (List Int)) (n : Nat) : Int := (rowN J n).getLastD 0
theorem row_eq {times : List Int} {w : Nat} {back : Int} {comes : List Int} {n : Nat} (hn : n < comes.length) (hw : 1 ≤ w) :
    rowN (jobsF times w back comes) n = rowF times (if n = 0 then [] else rowN (jobsF times w back comes) (n - 1)) (if w ≤ n then max comes[n] (endN (jobsF times w back comes) (n - w) + back) else comes[n]) := by
  have h := jobs_get (times := times) (w := w) (back := back) comes [] n hn (fun r hr => nomatch hr)
  have hl : (comes.foldl (stepF times w back) []).length = comes.length := jobs_len times w back comes
  simp only [List.length_nil, Nat.zero_add] at h
  unfold rowN
  rw [show jobsF times w back comes = comes.foldl (stepF times w back) [] from rfl, h]
  generalize comes.foldl (stepF times w back) [] = J at *
  show rowF times _ _ = _
  have e0 : (J.take n).length = n := by simp; omega
  congr 1
  · unfold prevF
    rw [e0]
    split
    · rfl
    · rw [List.getElem?_take, if_pos (by omega)]
  · unfold startF
    rw [e0]
    split
    · unfold endN rowN
      rw [List.getElem?_take, if_pos (by omega)]
    · rfl
theorem rowN_len {times : List Int} {w : Nat} {back : Int} {comes : List Int} {n : Nat} (hn : n < comes.length) : (rowN (jobsF times w back comes) n).length = times.length := by
  have hl : n < (jobsF times w back comes).length := by rw [jobs_len]; exact hn
  unfold rowN
  rw [List.getElem?_eq_getElem hl]
  exact jobs_wide times w back comes _ (List.getElem_mem hl)

section
variable {times : List Int} {w : Nat} {back : Int} {comes : List Int} (h : Ch times w back) (hc : ∀ c ∈ comes, 0 ≤ c)
/-- when job n starts at the first server, at the earliest -/
def stN (times : List Int) (w : Nat) (back : Int) (comes : List Int) (n : Nat) : Int := if w ≤ n then max (comes[n]?.getD 0) (endN (jobsF times w back comes) (n - w) + back) else comes[n]?.getD 0
include h
theorem row_st {n : Nat} (hn : n < comes.length) : rowN (jobsF times w back comes) n = rowF times (if n = 0 then [] else rowN (jobsF times w back comes) (n - 1)) (stN times w back comes n) := by
  rw [row_eq hn h.w1]
  unfold stN
  rw [List.getElem?_eq_getElem hn]
  rfl
theorem end_st {n : Nat} (hn : n < comes.length) : endN (jobsF times w back comes) n = (rowF times (if n = 0 then [] else rowN (jobsF times w back comes) (n - 1)) (stN times w back comes n)).getLastD (stN times w back comes n) := by
  unfold endN
  rw [row_st h hn]
  exact lastD_ne (row_ne h.ne _ _) _ _
theorem tpos : ∀ t ∈ times, 0 ≤ t := fun t ht => (h.t0 t ht).1
theorem end_ge {n : Nat} (hn : n < comes.length) : stN times w back comes n + times.sum ≤ endN (jobsF times w back comes) n := by
  rw [end_st h hn]
  exact row_last _ _ _ (tpos h)
theorem end_step {n : Nat} (hn : n < comes.length) (hw : w ≤ n) : endN (jobsF times w back comes) (n - w) + (times.sum + back) ≤ endN (jobsF times w back comes) n := by
  have := end_ge h hn
  unfold stN at this
  rw [if_pos hw] at this
  omega
theorem end_mono {n : Nat} (hn : n < comes.length) (h0 : 0 < n) : endN (jobsF times w back comes) (n - 1) ≤ endN (jobsF times w back comes) n := by
  rw [end_st h hn, if_neg (by omega)]
  exact row_mono _ _ _ (tpos h) (rowN_len (by omega)) 0 h.ne
theorem st_come {n : Nat} : comes[n]?.getD 0 ≤ stN times w back comes n := by
  unfold stN
  split <;> omega
include hc
theorem st0 {n : Nat} (hn : n < comes.length) : 0 ≤ stN times w back comes n := by
  have := st_come (comes := comes) h (n := n)
  rw [List.getElem?_eq_getElem hn] at this
  have k := hc _ (List.getElem_mem hn)
  simp only [Option.getD_some] at this
  omega
theorem end_ab : ∀ (n : Nat), n < comes.length → Ab times (rowN (jobsF times w back comes) n) (n + 1) ∧ ∀ t ∈ times, ((n : Int) + 1) * t ≤ endN (jobsF times w back comes) n
  | 0, hn => by
    have := row_ab times [] (stN times w back comes 0) 0 (tpos h) (st0 h hc hn) (.inl ⟨rfl, rfl⟩) (by cases times <;> trivial)
    rw [row_st h hn, end_st h hn]
    exact this
  | n + 1, hn => by
    have ih := end_ab n (by omega)
    have := row_ab times (rowN (jobsF times w back comes) n) (stN times w back comes (n + 1)) (n + 1) (tpos h) (st0 h hc hn) (.inr (rowN_len (by omega))) ih.1
    rw [row_st h hn, end_st h hn]
    simpa using this
theorem end_lo : ∀ (n : Nat), n < comes.length → (n : Int) * (times.sum + back) ≤ w * endN (jobsF times w back comes) n + w * (times.sum + back) := fun n => by
  induction n using Nat.strongRecOn with
  | ind n ih =>
    intro hn
    have hs := h.s0
    have hb := h.b0
    have hw0 := h.w1
    by_cases hw : w ≤ n
    · have i := ih (n - w) (by omega) (by omega)
      have s := end_step h hn hw
      have e1 : ((n - w : Nat) : Int) * (times.sum + back) = n * (times.sum + back) - w * (times.sum + back) := by rw [← Int.sub_mul]; congr 1; omega
      have e2 := Int.mul_le_mul_of_nonneg_left s (show (0 : Int) ≤ w by omega)
      rw [Int.mul_add] at e2
      omega
    · have i := end_ge h hn
      have j := st0 h hc hn
      have e1 : (n : Int) * (times.sum + back) ≤ w * (times.sum + back) := Int.mul_le_mul_of_nonneg_right (by omega) (by omega)
      have e2 : 0 ≤ (w : Int) * endN (jobsF times w back comes) n := Int.mul_nonneg (by omega) (by omega)
      omega
theorem wait0 : ∀ a ∈ waitF times w back comes, 0 ≤ a := fun a ha => by
  obtain ⟨p, hp, rfl⟩ := List.mem_map.mp ha
  obtain ⟨n, hn, e⟩ := List.mem_iff_getElem.mp hp
  have hl := jobs_len times w back comes
  simp at hn
  rw [List.getElem_zip] at e
  have g := end_ge h (comes := comes) (n := n) (by omega)
  have s := st_come (comes := comes) h (n := n)
  rw [List.getElem?_eq_getElem (by omega : n < comes.length)] at s
  unfold endN rowN at g
  rw [List.getElem?_eq_getElem (by omega : n < (jobsF times w back comes).length)] at g
  subst e
  simp only [Option.getD_some] at g s
  show 0 ≤ (jobsF times w back comes)[n].getLastD 0 - comes[n] - times.sum
  omega
end
section
variable {times : List Int} {w : Nat} {back : Int} (h : Ch times w back)
abbrev zeros : List Int := List.replicate 60 0
include h
theorem end_bel {bw : Int} (h1 : ∀ t ∈ times, w * t ≤ bw) (h2 : times.sum + back ≤ bw) : ∀ (n : Nat), n < 60 → Bel w times (rowN (jobsF times w back zeros) n) (n * bw) ∧ w * endN (jobsF times w back zeros) n ≤ n * bw + w * times.sum := fun n => by
  induction n using Nat.strongRecOn with
  | ind n ih =>
    intro hn
    have hw0 := h.w1
    have hs := h.s0
    have hb := h.b0
    have hz : zeros.length = 60 := by simp
    have z0 : zeros[n]?.getD 0 = 0 := by
      rw [List.getElem?_replicate, if_pos hn]; rfl
    have hst : w * stN times w back zeros n ≤ n * bw := by
      unfold stN
      rw [z0]
      by_cases hw : w ≤ n
      · rw [if_pos hw]
        have i := (ih (n - w) (by omega) (by omega)).2
        have e1 : ((n - w : Nat) : Int) * bw = n * bw - w * bw := by rw [← Int.sub_mul]; congr 1; omega
        have e3 := Int.mul_le_mul_of_nonneg_left h2 (show (0 : Int) ≤ w by omega)
        have e2 : 0 ≤ (n : Int) * bw := Int.mul_nonneg (by omega) (by omega)
        rw [Int.mul_add] at e3
        rcases Int.le_total 0 (endN (jobsF times w back zeros) (n - w) + back) with k | k
        · rw [Int.max_eq_right k, Int.mul_add]
          omega
        · rw [Int.max_eq_left k, Int.mul_zero]
          exact e2
      · rw [if_neg hw, Int.mul_zero]
        exact Int.mul_nonneg (by omega) (by omega)
    have hB : Bel w times (rowN (jobsF times w back zeros) n) (n * bw) := by
      rw [row_st h (by omega)]
      refine row_bel (by omega) times _ _ _ h1 hst ?_
      by_cases h0 : n = 0
      · rw [if_pos h0]
        cases times <;> trivial
      · rw [if_neg h0]
        have i := (ih (n - 1) (by omega) (by omega)).1
        rw [show ((n - 1 : Nat) : Int) * bw = n * bw - bw by
          rw [show ((n - 1 : Nat) : Int) = (n : Int) - 1 by omega, Int.sub_mul, Int.one_mul]] at i
        exact i
    refine ⟨hB, ?_⟩
    have hl : (rowN (jobsF times w back zeros) n).length = times.length := rowN_len (by omega)
    unfold endN
    exact bel_last _ _ _ _ hl hB (by rw [Int.mul_zero]; exact Int.mul_nonneg (by omega) (by omega))
end
end K42

set_option Elab.async false
set_option linter.all false
set_option maxRecDepth 100000
set_option maxHeartbeats 1000000
namespace K42
open PySem PySem.Spec PyProof.Rows L2 Dv
open Fx (fr Sm)
/-! ### lines of times -/
def oD : Option Int → D
  | none => .none
  | some i => .int i
abbrev oT (r : List (Option Int)) : D := .tuple (r.map oD)
abbrev oTT (l : List (List (Option Int))) : D := .tuple (l.map oT)
def laterO : Option Int → Option Int → Option Int
  | none, b => b
  | some a, none => some a
  | some a, some b => some (max a b)
def joinedO : Option Int → Option Int → Option Int
  | some a, some b => some (a + b)
  | _, _ => none
def imageO (line : List (List (Option Int))) (row : List (Option Int)) : List (Option Int) := line.map fun told => (told.zip row).foldl (fun best p => laterO best (joinedO p.1 p.2)) none
theorem later_ok (a b : Option Int) (τ : Tp) : Φ "later" [.d (oD a), .d (oD b)] τ = .ok (.d (oD (laterO a b))) τ := by
  rw [Φ_later]
  cases a <;> cases b <;> simp [exs, ex, ev, evA, evT, evP, evO, evI, look_br, look_own, share_br, slotOf_br, setAll, shareAll, Dv.run, A_later, N_later, oD, laterO]
theorem joined_ok (a b : Option Int) (τ : Tp) : Φ "joined" [.d (oD a), .d (oD b)] τ = .ok (.d (oD (joinedO a b))) τ := by
  rw [Φ_joined]
  cases a <;> cases b <;> simp [exs, ex, ev, evA, evT, evP, evO, evI, look_br, look_own, share_br, slotOf_br, setAll, shareAll, Dv.run, A_joined, N_joined, oD, joinedO]
theorem image_in (τ : Tp) (A B C E : Option Sl) : ∀ (l : List (Option Int × Option Int)) (best : Option Int) (o1 o2 : Option Sl), ∃ p1 p2,
    forLoop (exs Φ B_line_image_0) (.tup [.name 5, .name 6]) (l.map fun p => PyData.tuple [oD p.1, oD p.2]) [A, B, C, E, sD (oD best), o1, o2] τ = .nx [A, B, C, E, sD (oD (l.foldl (fun best p => laterO best (joinedO p.1 p.2)) best)), p1, p2] τ
  | [], best, o1, o2 => ⟨o1, o2, rfl⟩
  | p :: l, best, o1, o2 => by
    obtain ⟨p1, p2, e⟩ := image_in τ A B C E l (laterO best (joinedO p.1 p.2)) (sD (oD p.1)) (sD (oD p.2))
    refine ⟨p1, p2, ?_⟩
    have hb : exs Φ B_line_image_0 [A, B, C, E, sD (oD best), sD (oD p.1), sD (oD p.2)] τ = .nx [A, B, C, E, sD (oD (laterO best (joinedO p.1 p.2))), sD (oD p.1), sD (oD p.2)] τ := by
      unfold B_line_image_0
      simp [exs, ex, ev, evA, evT, evP, evO, evI, look_br, look_own, share_br, slotOf_br, setAll, shareAll, joined_ok, later_ok]
    simp only [List.map_cons, forLoop, setTg, setTgs, Option.bind, List.set]
    rw [hb]
    exact e
theorem image_out (τ : Tp) (A : Option Sl) (row : List (Option Int)) : ∀ (l : List (List (Option Int))) (acc : List (Option Int)) (o1 o2 o3 o4 : Option Sl), acc.length + l.length ≤ 100000 → ∃ p1 p2 p3 p4,
    forLoop (exs Φ B_line_image_1) (.name 3) (l.map oT) [A, sD (oT row), sO (acc.map oD), o1, o2, o3, o4] τ = .nx [A, sD (oT row), sO ((acc ++ imageO l row).map oD), p1, p2, p3, p4] τ
  | [], acc, o1, o2, o3, o4, _ => ⟨o1, o2, o3, o4, by simp [imageO, forLoop]⟩
  | t :: l, acc, o1, o2, o3, o4, hl => by
    rw [List.length_cons] at hl
    obtain ⟨q1, q2, hi⟩ := image_in τ A (sD (oT row)) (sO (acc.map oD)) (sD (oT t)) (t.zip row) none o3 o4
    obtain ⟨p1, p2, p3, p4, e⟩ := image_out τ A row l (acc ++ [(t.zip row).foldl (fun best p => laterO best (joinedO p.1 p.2)) none]) (sD (oT t)) (sD (oD ((t.zip row).foldl (fun best p => laterO best (joinedO p.1 p.2)) none))) q1 q2 (by simp; omega)
    refine ⟨p1, p2, p3, p4, ?_⟩
    have hb : exs Φ B_line_image_1 [A, sD (oT row), sO (acc.map oD), sD (oT t), o2, o3, o4] τ = .nx [A, sD (oT row), sO ((acc ++ [(t.zip row).foldl (fun best p => laterO best (joinedO p.1 p.2)) none]).map oD), sD (oT t), sD (oD ((t.zip row).foldl (fun best p => laterO best (joinedO p.1 p.2)) none)), q1, q2] τ := by
      have : acc.length ≤ 100000 := by omega
      unfold B_line_image_1
      rw [show sD (oD none) = sD .none from rfl] at hi
      simp [exs, ex, ev, evA, evT, evP, evO, evI, look_br, look_own, share_br, slotOf_br, setAll, shareAll, zipD_map, hi, this]
    simp only [List.map_cons, forLoop, setTg, List.set]
    rw [hb]
    dsimp only
    rw [e]
    simp [imageO]
theorem image_ok (line : List (List (Option Int))) (row : List (Option Int)) (hl : line.length ≤ 1000) (τ : Tp) : Φ "line_image" [.d (oTT line), .d (oT row)] τ = .ok (.d (oT (imageO line row))) τ := by
  rw [Φ_line_image]
  obtain ⟨p1, p2, p3, p4, e⟩ := image_out τ (sD (oTT line)) row line [] none none none none (by simp; omega)
  simp only [List.map_nil, List.nil_append] at e
  simp [exs, ex, ev, evA, evT, evP, evO, evI, look_br, look_own, share_br, slotOf_br, setAll, shareAll, Dv.run, A_line_image, N_line_image, e]
def inR : Option Int → Bool
  | none => true
  | some i => decide (-99 ≤ i) && decide (i ≤ 99)
structure Ln (line : List (List (Option Int))) : Prop where
  l1 : 1 ≤ line.length
  l2 : line.length ≤ 6
  sq : ∀ r ∈ line, r.length = line.length
  lo : ∀ r ∈ line, ∀ i, some i ∈ r → -99 ≤ i ∧ i ≤ 99
theorem line_ok {line : List (List (Option Int))} (h : Ln line) (τ : Tp) : Φ "check_line" [.d (oTT line)] τ = .ok (.d .none) τ := by
  rw [Φ_check_line]
  have c2 : ev Φ C_check_line_2 [sD (oTT line), none, none] τ = .ok (.fr (line.map fun r => PyData.bool (decide (r.length = line.length)))) [sD (oTT line), none, none] τ := by
    refine comp_map (l := line) (φ := oT) (env1 := [sD (oTT line), none, none]) (envs := fun r => [sD (oTT line), sD (oT r), none]) ?_ rfl (by have := h.l2; omega) (fun a _ => rfl) (fun a _ => rfl) rfl (fun a _ => rfl) fun a _ => ?_
    · simp [exs, ex, ev, evA, evT, evP, evO, evI, look_br, look_own, share_br, slotOf_br, setAll, shareAll]
    · unfold K_check_line_2
      simp [exs, ex, ev, evA, evT, evP, evO, evI, look_br, look_own, share_br, slotOf_br, setAll, shareAll]
      exact Int.ofNat_inj
  have c0 : ∀ r ∈ line, ev Φ C_check_line_0 [sD (oTT line), sD (oT r), none] τ = .ok (.fr (r.map fun a => PyData.bool (inR a))) [sD (oTT line), sD (oT r), none] τ := fun r hr => by
    refine comp_map (l := r) (φ := oD) (env1 := [sD (oTT line), sD (oT r), none]) (envs := fun a => [sD (oTT line), sD (oT r), sD (oD a)]) ?_ rfl (by have := h.l2; have := h.sq r hr; omega) (fun a _ => rfl) (fun a _ => rfl) rfl (fun a _ => rfl) fun a _ => ?_
    · simp [exs, ex, ev, evA, evT, evP, evO, evI, look_br, look_own, share_br, slotOf_br, setAll, shareAll]
    · unfold K_check_line_0
      cases a with
      | none => simp [exs, ex, ev, evA, evT, evP, evO, evI, look_br, look_own, share_br, slotOf_br, setAll, shareAll, oD, inR]
      | some i => by_cases h1 : -99 ≤ i <;> simp [exs, ex, ev, evA, evT, evP, evO, evI, look_br, look_own, share_br, slotOf_br, setAll, shareAll, oD, inR, h1]
  have c1 : ev Φ C_check_line_1 [sD (oTT line), none, none] τ = .ok (.fr (line.map fun r => PyData.bool (r.all inR))) [sD (oTT line), none, none] τ := by
    refine comp_map (l := line) (φ := oT) (env1 := [sD (oTT line), none, none]) (envs := fun r => [sD (oTT line), sD (oT r), none]) ?_ rfl (by have := h.l2; omega) (fun a _ => rfl) (fun a _ => rfl) rfl (fun a _ => rfl) fun a ha => ?_
    · simp [exs, ex, ev, evA, evT, evP, evO, evI, look_br, look_own, share_br, slotOf_br, setAll, shareAll]
    · unfold K_check_line_1
      have := c0 a ha
      simp [exs, ex, ev, evA, evT, evP, evO, evI, look_br, look_own, share_br, slotOf_br, setAll, shareAll, this, rb_all, boolsD_map2]
  have a2 : (line.map fun r => decide (r.length = line.length)).all id = true := by
    simp only [List.all_map, List.all_eq_true]
    exact fun r hr => decide_eq_true (h.sq r hr)
  have a1 : (line.map fun r => (r.all inR)).all id = true := by
    rw [List.all_map, List.all_eq_true]
    intro r hr
    show r.all inR = true
    rw [List.all_eq_true]
    intro a ha
    cases a with
    | none => rfl
    | some i =>
      have := h.lo r hr i ha
      show (decide (-99 ≤ i) && decide (i ≤ 99)) = true
      simp [this.1, this.2]
  have h1 := h.l1
  have h2 := h.l2
  have e1 : (1 : Int) ≤ line.length := by omega
  have e2 : (line.length : Int) ≤ 6 := by omega
  have r2 := rb_all (line.map fun r => PyData.bool (decide (r.length = line.length))) (boolsD_map2 (fun r => decide (r.length = line.length)) line)
  rw [a2] at r2
  have r1 := rb_all (line.map fun r => PyData.bool (r.all inR)) (boolsD_map2 (fun r => r.all inR) line)
  rw [a1] at r1
  simp [exs, ex, ev, evA, evT, evP, evO, evI, look_br, look_own, share_br, slotOf_br, setAll, shareAll, Dv.run, A_check_line, N_check_line, c2, r2, e1, e2]
  simp [exs, ex, ev, evA, evT, evP, evO, evI, look_br, look_own, share_br, slotOf_br, setAll, shareAll, c1, r1]
end K42

set_option Elab.async false
set_option linter.all false
set_option maxRecDepth 100000
set_option maxHeartbeats 1000000
namespace K42
open PySem PySem.Spec PyProof.Rows L2 Dv
open Fx (fr Sm)
def oF : Option Rat → D
  | none => .none
  | some b => fr b
theorem isNone_fr (q : Rat) : isNone (fr q) = false := rfl
theorem rate_loop {B : Rat} (hB : Sm 10 B) (Ld : D) (τ : Tp) : ∀ (l : List D) (best : Option Rat) (o2 o3 : Option Sl), (∀ b, best = some b → b ≤ B ∧ Sm 10 b) →
    (∀ c ∈ l, ∃ q, Sm 10 q ∧ q ≤ B ∧ Φ "mean_of" [.d Ld, .d c] τ = .ok (.d (fr q)) τ) → (best = some B ∨ ∃ c ∈ l, Φ "mean_of" [.d Ld, .d c] τ = .ok (.d (fr B)) τ) →
    ∃ p2 p3, forLoop (exs Φ B_rate_0) (.name 2) l [sD Ld, sD (oF best), o2, o3] τ = .nx [sD Ld, sD (fr B), p2, p3] τ
  | [], best, o2, o3, _, _, h => by
    rcases h with rfl | ⟨c, hc, _⟩
    · exact ⟨o2, o3, rfl⟩
    · cases hc
  | c :: l, best, o2, o3, hb, hl, h => by
    obtain ⟨q, hq, hqB, e⟩ := hl c List.mem_cons_self
    have go : ∀ b', b' ≤ B → Sm 10 b' → (b' = B ∨ ∃ c ∈ l, Φ "mean_of" [.d Ld, .d c] τ = .ok (.d (fr B)) τ) → exs Φ B_rate_0 [sD Ld, sD (oF best), sD c, o3] τ = .nx [sD Ld, sD (fr b'), sD c, sD (fr q)] τ →
        ∃ p2 p3, forLoop (exs Φ B_rate_0) (.name 2) (c :: l) [sD Ld, sD (oF best), o2, o3] τ = .nx [sD Ld, sD (fr B), p2, p3] τ := by
      intro b' h1 h2 h3 h4
      obtain ⟨p2, p3, e2⟩ := rate_loop hB Ld τ l (some b') (sD c) (sD (fr q)) (by intro b hb; cases hb; exact ⟨h1, h2⟩) (fun x hx => hl x (List.mem_cons_of_mem _ hx)) (by
        rcases h3 with rfl | h3
        · exact .inl rfl
        · exact .inr h3)
      refine ⟨p2, p3, ?_⟩
      simp only [forLoop, setTg, List.set]
      rw [h4]
      exact e2
    have fin : ∀ {x : Rat}, Φ "mean_of" [.d Ld, .d c] τ = .ok (.d (fr x)) τ → x = q := by
      intro x hx
      rw [e] at hx
      have : fr q = fr x := by injection hx with h1; injection h1
      have h2 := eqv_fr q x
      rw [this, eqv_fr] at h2
      simp at h2
      exact h2.symm
    have h' : q = B ∨ best = some B ∨ ∃ c ∈ l, Φ "mean_of" [.d Ld, .d c] τ = .ok (.d (fr B)) τ := by
      rcases h with h | ⟨x, hx, hx2⟩
      · exact .inr (.inl h)
      · rcases List.mem_cons.mp hx with rfl | hx
        · exact .inl (fin hx2).symm
        · exact .inr (.inr ⟨x, hx, hx2⟩)
    cases best with
    | none =>
      refine go q hqB hq ?_ ?_
      · rcases h' with h' | h' | h'
        · exact .inl h'
        · cases h'
        · exact .inr h'
      · unfold B_rate_0
        simp [exs, ex, ev, evA, evT, evP, evO, evI, look_br, look_own, share_br, slotOf_br, setAll, shareAll, e, oF]
    | some b =>
      obtain ⟨b1, b2⟩ := hb b rfl
      have e4 := less_ok b2 hq (by omega) τ
      by_cases c1 : b < q
      · refine go q hqB hq ?_ ?_
        · rcases h' with h' | h' | h'
          · exact .inl h'
          · cases h'
            exact absurd c1 (by grind)
          · exact .inr h'
        · unfold B_rate_0
          simp [exs, ex, ev, evA, evT, evP, evO, evI, look_br, look_own, share_br, slotOf_br, setAll, shareAll, e, e4, c1, isNone_fr, oF]
      · refine go b b1 b2 ?_ ?_
        · rcases h' with h' | h' | h'
          · subst h'
            exact .inl (by grind)
          · cases h'
            exact .inl rfl
          · exact .inr h'
        · unfold B_rate_0
          simp [exs, ex, ev, evA, evT, evP, evO, evI, look_br, look_own, share_br, slotOf_br, setAll, shareAll, e, e4, c1, isNone_fr, oF]
/-- the greatest of the means -/
theorem rate_ok {B : Rat} (hB : Sm 10 B) {Ld : D} {l : List D} {τ : Tp} (hc : Φ "circles" [.d Ld] τ = .ok (.d (.list l)) τ) (hl : ∀ c ∈ l, ∃ q, Sm 10 q ∧ q ≤ B ∧ Φ "mean_of" [.d Ld, .d c] τ = .ok (.d (fr q)) τ)
    (h : ∃ c ∈ l, Φ "mean_of" [.d Ld, .d c] τ = .ok (.d (fr B)) τ) : Φ "rate" [.d Ld] τ = .ok (.d (fr B)) τ := by
  rw [Φ_rate]
  obtain ⟨p2, p3, e⟩ := rate_loop hB Ld τ l none none none (by intro b hb; cases hb) hl (.inr h)
  rw [show oF none = .none from rfl] at e
  simp [exs, ex, ev, evA, evT, evP, evO, evI, look_br, look_own, share_br, slotOf_br, setAll, shareAll, Dv.run, A_rate, N_rate, hc, e]
/-- the mean along a circle: its sum by its places -/
theorem mean_ok {Ld c : D} {s n : Int} {τ : Tp} (h : evA Φ (.cons (.blt .sum (.cons C_mean_of_0 .nil)) (.cons (.blt .len (.cons (.var 1) .nil)) .nil)) [sD Ld, sD c, none, none] τ = .ok [.sh (.d (.int s)), .sh (.d (.int n))] [sD Ld, sD c, none, none] τ) (h0 : n ≠ 0) (h1 : Fx.sm n) : Φ "mean_of" [.d Ld, .d c] τ = .ok (.d (fr (Rat.divInt s n))) τ := by
  rw [Φ_mean_of]
  have e := mk_share s n τ h0 h1
  have f : exs Φ A_mean_of [sD Ld, sD c, none, none] τ = .ret (.d (fr (Rat.divInt s n))) τ := by
    show (ex Φ (.ret (.call "share" _)) _ τ).seq _ = _
    rw [ex, ev]
    rw [h]
    simp [shareAll, e]
  unfold Dv.run
  rw [show (List.map (fun v => some (Sl.sh v)) [Va.d Ld, Va.d c] ++ List.replicate (N_mean_of.length - [Va.d Ld, Va.d c].length) none : Dv.Env) = [sD Ld, sD c, none, none] from rfl, f]
/-! ### runs -/
def iterO (line : List (List (Option Int))) (row : List (Option Int)) : Nat → List (Option Int)
  | 0 => row
  | n + 1 => imageO line (iterO line row n)
theorem run_loop {line : List (List (Option Int))} {row : List (Option Int)} (hl : line.length ≤ 1000) (τ : Tp) (B C : Option Sl) : ∀ (m k : Nat) (l : List D) (o : Option Sl), l.length = m → (∀ x ∈ l, ∃ i, x = .int i) → k + m ≤ 1000 →
    ∃ p, forLoop (exs Φ B_run_line_0) (.name 4) l [sD (oTT line), B, C, sO ((List.range (k + 1)).map fun i => oT (iterO line row i)), o] τ = .nx [sD (oTT line), B, C, sO ((List.range (k + m + 1)).map fun i => oT (iterO line row i)), p] τ
  | 0, k, [], o, _, _, _ => ⟨o, rfl⟩
  | m + 1, k, x :: l, o, hm, hx, hk => by
    obtain ⟨p, e⟩ := run_loop hl τ B C m (k + 1) l (sD x) (by simpa using hm) (fun y hy => hx y (List.mem_cons_of_mem _ hy)) (by omega)
    refine ⟨p, ?_⟩
    have e1 : atI ((List.range (k + 1)).map fun i => oT (iterO line row i)) (-1) = some (oT (iterO line row k)) := by
      rw [at_last (by simp)]
      simp
    have hb : exs Φ B_run_line_0 [sD (oTT line), B, C, sO ((List.range (k + 1)).map fun i => oT (iterO line row i)), sD x] τ = .nx [sD (oTT line), B, C, sO ((List.range (k + 1 + 1)).map fun i => oT (iterO line row i)), sD x] τ := by
      unfold B_run_line_0
      have : k + 1 ≤ 100000 := by omega
      have i := image_ok line (iterO line row k) hl τ
      rw [List.range_succ (n := k + 1)]
      simp [exs, ex, ev, evA, evT, evP, evO, evI, look_br, look_own, share_br, slotOf_br, setAll, shareAll, e1, i, this, iterO]
    simp only [forLoop, setTg, List.set]
    rw [hb]
    dsimp only
    rw [e]
    rw [show k + 1 + m + 1 = k + (m + 1) + 1 by omega]
theorem run_ok {line : List (List (Option Int))} (h : Ln line) {row : List (Option Int)} (hr : row.length = line.length) (τ : Tp) : Φ "run_line" [.d (oTT line), .d (oT row), .d (.int 20)] τ = .ok (.d (.tuple ((List.range 21).map fun i => oT (iterO line row i)))) τ := by
  rw [Φ_run_line]
  have c := line_ok h τ
  obtain ⟨L, hL⟩ : ∃ L, L = rangeD 0 20 := ⟨_, rfl⟩
  have r : itemsD .range1 [.int 20] = some L := by rw [hL]; rfl
  obtain ⟨p, e⟩ := run_loop (line := line) (row := row) (by have := h.l2; omega) τ (sD (oT row)) (sI 20) 20 0 L none (by rw [hL]; rfl) (by rw [hL]; intro x hx; obtain ⟨i, _, rfl⟩ := List.mem_map.mp hx; exact ⟨_, rfl⟩) (by omega)
  rw [show (List.range (0 + 1)).map (fun i => oT (iterO line row i)) = [oT row] from rfl] at e
  rw [show 0 + 20 + 1 = 21 from rfl] at e
  generalize (List.range 21).map (fun i => oT (iterO line row i)) = z at *
  have h2 : ((row.length : Int) = line.length) := by omega
  simp [exs, ex, ev, evA, evT, evP, evO, evI, look_br, look_own, share_br, slotOf_br, setAll, shareAll, Dv.run, A_run_line, N_run_line, c, r, e, h2]
end K42

set_option Elab.async false
set_option linter.all false
set_option maxRecDepth 100000
set_option maxHeartbeats 1000000
/-! K42c: circles: what the search gives. -/
namespace K42
open PySem PySem.Spec PyProof.Rows L2 Dv
open Fx (fr Sm)
/-! ### ways -/
abbrev nI (l : List Nat) : List D := l.map fun (k : Nat) => PyData.int k
abbrev nT (l : List Nat) : D := .tuple (nI l)
/-- is there a step from a to b -/
def edge (line : List (List (Option Int))) (a b : Nat) : Bool := ((line[a]?.getD [])[b]?.getD none).isSome
/-- what a way goes on with -/
def fitsW (e : Nat → Nat → Bool) (n start : Nat) (way : List Nat) : List Nat := (List.range' (start + 1) (n - (start + 1))).filter fun k => !way.contains k && e (way.getLastD 0) k
def dfsF (e : Nat → Nat → Bool) (n start : Nat) : Nat → List (List Nat) → List (List Nat) → List (List Nat)
  | 0, _, found => found
  | f + 1, st, found => match st.getLast? with
    | none => found
    | some way => dfsF e n start f (st.dropLast ++ (fitsW e n start way).map fun k => way ++ [k]) (if e (way.getLastD 0) start then found ++ [way] else found)
/-- how many ways come from a way with m places left -/
def waysN : Nat → Nat
  | 0 => 1
  | m + 1 => 1 + (m + 1) * waysN m
def measW (n start : Nat) (st : List (List Nat)) : Nat := (st.map fun w => waysN (n - start - w.length)).sum
structure Way (e : Nat → Nat → Bool) (n start : Nat) (w : List Nat) : Prop where
  hd : w.head? = some start
  nd : w.Nodup
  lt : ∀ k ∈ w, start ≤ k ∧ k < n
  st : ∀ i (h : i + 1 < w.length), e (w[i]'(by omega)) w[i + 1] = true
theorem Way.ne {e : Nat → Nat → Bool} {n start : Nat} {w : List Nat} (h : Way e n start w) : w ≠ [] := by
  intro e
  have := h.hd
  rw [e] at this
  cases this
theorem nodup_le {n start : Nat} {w : List Nat} (h : w.Nodup) (hl : ∀ k ∈ w, start ≤ k ∧ k < n) : w.length ≤ n - start := by
  have := List.Nodup.length_le_of_subset (l₂ := List.range' start (n - start)) h fun k hk => by
    have := hl k hk
    rw [List.mem_range'_1]
    omega
  simpa using this
theorem last_get {w : List Nat} (h : w ≠ []) : w.getLastD 0 = w[w.length - 1]'(by have := List.length_pos_iff.mpr h; omega) := by
  rw [List.getLastD_eq_getLast?, List.getLast?_eq_getElem?, List.getElem?_eq_getElem (by have := List.length_pos_iff.mpr h; omega)]
  rfl
theorem Way.snoc {e : Nat → Nat → Bool} {n start : Nat} {w : List Nat} (h : Way e n start w) {k : Nat} (hk : k ∈ fitsW e n start w) : Way e n start (w ++ [k]) := by
  simp only [fitsW, List.mem_filter, List.mem_range'_1, Bool.and_eq_true, Bool.not_eq_true', ← Bool.not_eq_true, List.contains_iff_mem] at hk
  obtain ⟨hr, hn, he⟩ := hk
  have hw := List.length_pos_iff.mpr h.ne
  refine ⟨?_, ?_, fun j hj => ?_, fun i hi => ?_⟩
  · rw [List.head?_append, h.hd]; rfl
  · rw [List.nodup_append]
    refine ⟨h.nd, by simp, fun a ha b hb => ?_⟩
    rw [List.mem_singleton] at hb
    subst hb
    rintro rfl
    exact hn ha
  · rcases List.mem_append.mp hj with hj | hj
    · exact h.lt j hj
    · rw [List.mem_singleton] at hj
      omega
  · simp only [List.length_append, List.length_singleton] at hi
    by_cases c : i + 1 < w.length
    · rw [List.getElem_append_left (by omega), List.getElem_append_left c]
      exact h.st i c
    · have e1 : i = w.length - 1 := by omega
      subst e1
      rw [List.getElem_append_left (by omega), List.getElem_append_right (by omega)]
      rw [last_get h.ne] at he
      simpa using he
theorem Way.fits {e : Nat → Nat → Bool} {n start : Nat} {w r : List Nat} {k : Nat} (h : Way e n start (w ++ k :: r)) (hw : w ≠ []) : k ∈ fitsW e n start w := by
  have hl := List.length_pos_iff.mpr hw
  simp only [fitsW, List.mem_filter, List.mem_range'_1, Bool.and_eq_true, Bool.not_eq_true', ← Bool.not_eq_true, List.contains_iff_mem]
  have hm : k ∈ w ++ k :: r := by simp
  have hk := h.lt k hm
  have hnd := h.nd
  rw [List.nodup_append] at hnd
  have hnw : k ∉ w := fun hkw => hnd.2.2 k hkw k (by simp) rfl
  have hs : start ∈ w := by
    have := h.hd
    cases w with
    | nil => exact absurd rfl hw
    | cons a t =>
      simp at this
      simp [this]
  refine ⟨?_, hnw, ?_⟩
  · have : k ≠ start := fun e => hnw (e ▸ hs)
    omega
  · have := h.st (w.length - 1) (by simp; omega)
    rw [List.getElem_append_left (by omega), List.getElem_append_right (by omega)] at this
    rw [last_get hw]
    simpa [show w.length - 1 + 1 - w.length = 0 by omega] using this
theorem fits_len {e : Nat → Nat → Bool} {n start : Nat} {w : List Nat} (h : Way e n start w) : (fitsW e n start w).length ≤ n - start - w.length := by
  have a : (w ++ fitsW e n start w).Nodup := by
    rw [List.nodup_append]
    refine ⟨h.nd, List.Pairwise.filter _ List.nodup_range', fun a ha b hb => ?_⟩
    simp only [fitsW, List.mem_filter, Bool.and_eq_true, Bool.not_eq_true', ← Bool.not_eq_true, List.contains_iff_mem] at hb
    rintro rfl
    exact hb.2.1 ha
  have := nodup_le (n := n) (start := start) a fun k hk => by
    rcases List.mem_append.mp hk with hk | hk
    · exact h.lt k hk
    · simp only [fitsW, List.mem_filter, List.mem_range'_1] at hk
      omega
  rw [List.length_append] at this
  omega
theorem waysN_pos : ∀ m, 0 < waysN m
  | 0 => by simp [waysN]
  | m + 1 => by simp only [waysN]; omega
theorem sum_le_mul {k : Nat} : ∀ {l : List Nat}, (∀ x ∈ l, x ≤ k) → l.sum ≤ l.length * k
  | [], _ => by simp
  | x :: l, h => by
    rw [List.sum_cons, List.length_cons, Nat.add_mul, Nat.one_mul]
    have := h x (by simp)
    have := sum_le_mul (l := l) fun y hy => h y (by simp [hy])
    omega
theorem meas_step {e : Nat → Nat → Bool} {n start : Nat} {st : List (List Nat)} {w : List Nat} (h : Way e n start w) : measW n start (st ++ (fitsW e n start w).map fun k => w ++ [k]) < measW n start (st ++ [w]) := by
  have hl := fits_len h
  unfold measW
  rw [List.map_append, List.sum_append, List.map_append, List.sum_append, List.map_map]
  simp only [List.map_cons, List.map_nil, List.sum_cons, List.sum_nil, Nat.add_zero]
  generalize hm : n - start - w.length = m at *
  have a : ((fitsW e n start w).map ((fun w => waysN (n - start - w.length)) ∘ fun k => w ++ [k])).sum < waysN m := by
    cases m with
    | zero =>
      have : fitsW e n start w = [] := List.length_eq_zero_iff.mp (by omega)
      rw [this]
      simp [waysN]
    | succ m =>
      have := sum_le_mul (k := waysN m) (l := (fitsW e n start w).map ((fun w => waysN (n - start - w.length)) ∘ fun k => w ++ [k])) fun x hx => by
        obtain ⟨k, hk, rfl⟩ := List.mem_map.mp hx
        simp only [Function.comp_apply, List.length_append, List.length_singleton]
        rw [show n - start - (w.length + 1) = m by omega]
        exact Nat.le_refl _
      rw [List.length_map] at this
      have b := Nat.mul_le_mul_right (waysN m) hl
      simp only [waysN]
      omega
  omega
theorem prefix_snoc {u w : List Nat} {k : Nat} (h : u <+: w ++ [k]) : u <+: w ∨ u = w ++ [k] := (List.prefix_concat_iff.mp h).symm
theorem dfs_mem {e : Nat → Nat → Bool} {n start : Nat} : ∀ (f : Nat) (st found : List (List Nat)), (∀ w ∈ st, Way e n start w) → measW n start st ≤ f →
    ∀ c, c ∈ dfsF e n start f st found ↔ c ∈ found ∨ ∃ w ∈ st, w <+: c ∧ Way e n start c ∧ e (c.getLastD 0) start = true
  | 0, st, found, hw, hm, c => by
    cases st with
    | nil => simp [dfsF]
    | cons w st =>
      have := waysN_pos (n - start - w.length)
      simp [measW] at hm
      omega
  | f + 1, st, found, hw, hm, c => by
    rcases List.eq_nil_or_concat st with rfl | ⟨st, w, rfl⟩
    · simp [dfsF]
    · rw [List.concat_eq_append] at *
      have hW := hw w (by simp)
      have hd := meas_step (st := st) hW
      have ih := dfs_mem f (st ++ (fitsW e n start w).map fun k => w ++ [k]) (if e (w.getLastD 0) start then found ++ [w] else found) (fun u hu => by
        rcases List.mem_append.mp hu with hu | hu
        · exact hw u (by simp [hu])
        · obtain ⟨k, hk, rfl⟩ := List.mem_map.mp hu
          exact hW.snoc hk) (by omega) c
      have e0 : dfsF e n start (f + 1) (st ++ [w]) found = dfsF e n start f (st ++ (fitsW e n start w).map fun k => w ++ [k]) (if e (w.getLastD 0) start then found ++ [w] else found) := by
        simp [dfsF, List.getLast?_append]
      rw [e0, ih]
      have hf : c ∈ (if e (w.getLastD 0) start then found ++ [w] else found) ↔ c ∈ found ∨ (c = w ∧ e (w.getLastD 0) start = true) := by
        split <;> simp_all
      rw [hf]
      constructor
      · rintro ((h | ⟨rfl, h⟩) | ⟨u, hu, h⟩)
        · exact .inl h
        · exact .inr ⟨c, by simp, List.prefix_refl _, hW, h⟩
        · rcases List.mem_append.mp hu with hu | hu
          · exact .inr ⟨u, by simp [hu], h⟩
          · obtain ⟨k, hk, rfl⟩ := List.mem_map.mp hu
            exact .inr ⟨w, by simp, (List.prefix_append w [k]).trans h.1, h.2⟩
      · rintro (h | ⟨u, hu, h1, h2, h3⟩)
        · exact .inl (.inl h)
        · rcases List.mem_append.mp hu with hu | hu
          · exact .inr ⟨u, by simp [hu], h1, h2, h3⟩
          · rw [List.mem_singleton] at hu
            subst hu
            obtain ⟨r, rfl⟩ := h1
            cases r with
            | nil =>
              rw [List.append_nil] at *
              exact .inl (.inr ⟨rfl, h3⟩)
            | cons k r =>
              refine .inr ⟨u ++ [k], ?_, ⟨r, by simp⟩, h2, h3⟩
              exact List.mem_append_right _ (List.mem_map.mpr ⟨k, h2.fits hW.ne, rfl⟩)
theorem dfs_nodup {e : Nat → Nat → Bool} {n start : Nat} : ∀ (f : Nat) (st found : List (List Nat)), (∀ w ∈ st, Way e n start w) → st.Pairwise (fun a b => ¬ a <+: b ∧ ¬ b <+: a) → found.Nodup → (∀ c ∈ found, ∀ w ∈ st, ¬ w <+: c) → (dfsF e n start f st found).Nodup
  | 0, st, found, _, _, h, _ => h
  | f + 1, st, found, hw, hp, hn, hx => by
    rcases List.eq_nil_or_concat st with rfl | ⟨st, w, rfl⟩
    · simpa [dfsF] using hn
    · rw [List.concat_eq_append] at *
      have hW := hw w (by simp)
      have e0 : dfsF e n start (f + 1) (st ++ [w]) found = dfsF e n start f (st ++ (fitsW e n start w).map fun k => w ++ [k]) (if e (w.getLastD 0) start then found ++ [w] else found) := by
        simp [dfsF, List.getLast?_append]
      rw [e0]
      rw [List.pairwise_append] at hp
      obtain ⟨p1, _, p3⟩ := hp
      have p3 := fun a ha => p3 a ha w (by simp)
      refine dfs_nodup f _ _ (fun u hu => ?_) ?_ ?_ ?_
      · rcases List.mem_append.mp hu with hu | hu
        · exact hw u (by simp [hu])
        · obtain ⟨k, hk, rfl⟩ := List.mem_map.mp hu
          exact hW.snoc hk
      · rw [List.pairwise_append]
        refine ⟨p1, ?_, fun a ha b hb => ?_⟩
        · rw [List.pairwise_map]
          refine List.Pairwise.imp (R := fun a b => a ≠ b) (fun {a b} hab => ?_) (List.Pairwise.filter _ List.nodup_range')
          have go : ∀ a b : Nat, a ≠ b → ¬ w ++ [a] <+: w ++ [b] := fun a b hab h => by
            have := h.eq_of_length (by simp)
            simp at this
            exact hab this
          exact ⟨go a b hab, go b a hab.symm⟩
        · obtain ⟨k, hk, rfl⟩ := List.mem_map.mp hb
          refine ⟨fun h => ?_, fun h => (p3 a ha).2 ((List.prefix_append w [k]).trans h)⟩
          rcases prefix_snoc h with h | rfl
          · exact (p3 a ha).1 h
          · exact (p3 _ ha).2 (List.prefix_append w [k])
      · split
        · rw [List.nodup_append]
          refine ⟨hn, by simp, fun a ha b hb => ?_⟩
          rw [List.mem_singleton] at hb
          subst hb
          rintro rfl
          exact hx a ha a (by simp) (List.prefix_refl _)
        · exact hn
      · intro c hc u hu
        have hc' : c ∈ found ∨ c = w := by
          split at hc
          · simpa using hc
          · exact .inl hc
        rcases hc' with hc' | rfl
        · rcases List.mem_append.mp hu with hu | hu
          · exact hx c hc' u (by simp [hu])
          · obtain ⟨k, hk, rfl⟩ := List.mem_map.mp hu
            exact fun h => hx c hc' w (by simp) ((List.prefix_append w [k]).trans h)
        · rcases List.mem_append.mp hu with hu | hu
          · exact (p3 u hu).1
          · obtain ⟨k, hk, rfl⟩ := List.mem_map.mp hu
            intro h
            have := h.length_le
            simp at this
            omega
/-! ### the search, reckoned -/
section
variable {line : List (List (Option Int))} (h : Ln line)
include h
theorem edge_at {a b : Nat} (ha : a < line.length) (hb : b < line.length) : ∃ row z, atI (line.map oT) (a : Int) = some (oT row) ∧ atI (row.map oD) (b : Int) = some (oD z) ∧ edge line a b = z.isSome := by
  have hl := h.sq line[a] (List.getElem_mem ha)
  refine ⟨line[a], line[a][b]'(by omega), ?_, ?_, ?_⟩
  · rw [at_nat (by simpa using ha)]; simp
  · rw [at_nat (by simp; omega)]; simp
  · unfold edge
    simp [List.getElem?_eq_getElem ha, List.getElem?_eq_getElem (show b < line[a].length by omega)]
omit h in
theorem isNone_oD (z : Option Int) : isNone (oD z) = !z.isSome := by cases z <;> rfl
omit h in
theorem lastN {w : List Nat} (hw : w ≠ []) : atI (nI w) (-1) = some (.int (w.getLastD 0 : Nat)) := by
  have : nI w ≠ [] := by simpa using hw
  rw [at_last this, last_get hw, List.getLast_eq_getElem]
  simp
omit h in
theorem in_nat {k : Nat} {w : List Nat} : cmpD .notin (.int k) (nT w) = some (!w.contains k) := by
  have s2 : SeqAt.shaped (nT w) = true := (lay_tuple (k := 1) (l := nI w) fun x hx => by
    obtain ⟨i, _, rfl⟩ := List.mem_map.mp hx
    exact lay_int _).shaped (by omega)
  simp only [cmpD, inD, shaped_int, s2, Bool.and_self, if_true, seqOf, Option.map_some, List.any_map]
  congr 2
  rw [Bool.eq_iff_iff, List.any_eq_true]
  simp
  constructor
  · rintro ⟨x, hx, e⟩
    have : x = k := by omega
    subst this
    exact hx
  · intro hk
    exact ⟨k, hk, rfl⟩
theorem c_fits {start : Nat} {w : List Nat} (hw : Way (edge line) line.length start w) (found st : List D) (o5 : Option Sl) (o6 : Option Sl) (h6 : noOwn [o6] [0] = true) (τ : Tp) :
    let e := [sD (oTT line), sO found, sI start, sO st, sD (nT w), o5, o6]
    ev Φ C_circles_1 e τ = .ok (.fr (nI (fitsW (edge line) line.length start w))) e τ := by
  intro e
  have h2 := h.l2
  have hs : start < line.length := by
    have := hw.hd
    cases w with
    | nil => cases this
    | cons a t =>
      simp at this
      subst this
      exact (hw.lt a (by simp)).2
  have hlast : w.getLastD 0 < line.length := by
    rw [last_get hw.ne]
    exact (hw.lt _ (List.getElem_mem _)).2
  refine comp_pure (l := List.range' (start + 1) (line.length - (start + 1))) (φ := fun (k : Nat) => PyData.int k) (p := fun k => !w.contains k && edge line (w.getLastD 0) k) (env1 := e) (envs := fun k => [sD (oTT line), sO found, sI start, sO st, sD (nT w), o5, sI (k : Nat)]) ?_ ?_ (by simp; omega) (fun a _ => rfl) (fun a _ => rfl) rfl (fun a _ => rfl) (fun k hk => ?_) (fun a ha _ => ⟨_, rfl, rfl⟩)
  · have r : itemsD .range2 [.int (1 + start), .int line.length] = some ((List.range' (start + 1) (line.length - (start + 1))).map fun (k : Nat) => PyData.int k) := by
      rw [it_range2 _ _ (by rw [small62_of _ (by omega) (by omega), small62_of _ (by omega) (by omega)]; rfl)]
      congr 1
      unfold rangeD
      rw [show ((line.length : Int) - (1 + start)).toNat = line.length - (start + 1) by omega, List.range'_eq_map_range, List.map_map]
      apply List.map_congr_left
      intro i _
      simp only [Function.comp_apply, PyData.int.injEq]
      omega
    have q : (start : Int) + 1 = 1 + start := by omega
    generalize (List.range' (start + 1) (line.length - (start + 1))).map (fun (k : Nat) => PyData.int k) = L at *
    simp only [e]
    simp [exs, ex, ev, evA, evT, evP, evO, evI, look_br, look_own, share_br, slotOf_br, setAll, shareAll, q, r]
  · simpa [noOwn, e] using h6
  · rw [List.mem_range'_1] at hk
    obtain ⟨row, z, x1, x2, x3⟩ := edge_at h (a := w.getLastD 0) (b := k) hlast (by omega)
    have x4 := lastN hw.ne
    unfold L_circles_1
    rw [x3]
    generalize w.getLastD 0 = la at *
    cases hc : w.contains k with
    | true =>
      have hm : k ∈ w := by simpa using hc
      simp [exs, ex, ev, evA, evT, evP, evO, evI, look_br, look_own, share_br, slotOf_br, setAll, shareAll, in_nat, hm]
    | false =>
      have hm : ¬ k ∈ w := by simpa using hc
      simp [exs, ex, ev, evA, evT, evP, evO, evI, look_br, look_own, share_br, slotOf_br, setAll, shareAll, in_nat, hm, x1, x2, x4, isNone_oD]

theorem step_body {start : Nat} {w : List Nat} (hw : Way (edge line) line.length start w) (found : List (List Nat)) (st : List (List Nat)) (hf : found.length ≤ 90000) (hst : st.length ≤ 90000) (o4 o5 o6 : Option Sl) (h6 : noOwn [o6] [0] = true) (τ : Tp) :
    exs Φ B_circles_0 [sD (oTT line), sO (found.map nT), sI start, sO ((st ++ [w]).map nT), o4, o5, o6] τ = .nx [sD (oTT line), sO ((if edge line (w.getLastD 0) start then found ++ [w] else found).map nT), sI start, sO ((st ++ (fitsW (edge line) line.length start w).map fun k => w ++ [k]).map nT), sD (nT w), sD (.list (nI (fitsW (edge line) line.length start w))), o6] τ := by
  have h2 := h.l2
  have hs : start < line.length := by
    have := hw.hd
    cases w with
    | nil => cases this
    | cons a t =>
      simp at this
      subst this
      exact (hw.lt a (by simp)).2
  have hlast : w.getLastD 0 < line.length := by
    rw [last_get hw.ne]
    exact (hw.lt _ (List.getElem_mem _)).2
  have hwl : w.length ≤ 6 := by
    have := nodup_le hw.nd hw.lt
    omega
  have hfl : (fitsW (edge line) line.length start w).length ≤ 6 := by
    have := fits_len hw
    omega
  obtain ⟨row, z, x1, x2, x3⟩ := edge_at h (a := w.getLastD 0) (b := start) hlast hs
  have x4 := lastN hw.ne
  have pop1 : ((st ++ [w]).map nT)[((st ++ [w]).map nT).length - 1]? = some (nT w) := by simp
  have pop2 : ((st ++ [w]).map nT).dropLast = st.map nT := by
    rw [List.map_append, List.map_cons, List.map_nil, List.dropLast_concat]
  have cf := fun (fd : List D) => c_fits h hw fd (st.map nT) o5 
  have ce : ∀ (fd : List D) (F : List Nat), F.length ≤ 6 → ev Φ C_circles_0 [sD (oTT line), sO fd, sI start, sO (st.map nT), sD (nT w), sO (nI F), o6] τ = .ok (.fr ((F.map fun k => w ++ [k]).map nT)) [sD (oTT line), sO fd, sI start, sO (st.map nT), sD (nT w), sD (.list (nI F)), o6] τ := by
    intro fd F hF
    rw [List.map_map]
    refine comp_map (l := F) (φ := fun (k : Nat) => PyData.int k) (env1 := [sD (oTT line), sO fd, sI start, sO (st.map nT), sD (nT w), sD (.list (nI F)), o6]) (envs := fun k => [sD (oTT line), sO fd, sI start, sO (st.map nT), sD (nT w), sD (.list (nI F)), sI (k : Nat)]) ?_ ?_ (by omega) (fun a _ => rfl) (fun a _ => rfl) rfl (fun a _ => rfl) (fun k hk => ?_)
    · simp [exs, ex, ev, evA, evT, evP, evO, evI, look_br, look_own, share_br, slotOf_br, setAll, shareAll, share_own]
    · simpa [noOwn] using h6
    · unfold K_circles_0
      refine ⟨.sh (.d (nT (w ++ [k]))), ?_, rfl⟩
      simp [exs, ex, ev, evA, evT, evP, evO, evI, look_br, look_own, share_br, slotOf_br, setAll, shareAll, add_tt, show w.length + 1 ≤ 100000 by omega]
  have cf2 := fun fd => cf fd o6 h6 τ
  generalize hF : fitsW (edge line) line.length start w = F at *
  have cew := fun fd => ce fd F hfl
  rw [x3]
  generalize w.getLastD 0 = la at *
  have hfd : found.length ≤ 100000 := by omega
  have hlen : st.length + F.length ≤ 100000 := by omega
  generalize hP : (st ++ [w]).map nT = P at *
  generalize hQ : (F.map fun k => w ++ [k]).map nT = Q at *
  have hQl : Q.length = F.length := by rw [← hQ]; simp
  have hR : (st ++ F.map fun k => w ++ [k]).map nT = st.map nT ++ Q := by rw [List.map_append, hQ]
  rw [hR]
  have hSl : (st.map nT).length = st.length := by simp
  generalize st.map nT = S at *
  simp only [] at cf2
  cases hz : z.isSome with
  | true =>
    unfold B_circles_0
    simp [exs, ex, ev, evA, evT, evP, evO, evI, look_br, look_own, share_br, slotOf_br, setAll, shareAll, pop1, pop2, x1, x2, x4, isNone_oD, hz, hfd, cf2, cew, hSl, hQl, hlen]
  | false =>
    unfold B_circles_0
    simp [exs, ex, ev, evA, evT, evP, evO, evI, look_br, look_own, share_br, slotOf_br, setAll, shareAll, pop1, pop2, x1, x2, x4, isNone_oD, hz, hfd, cf2, cew, hSl, hQl, hlen]
omit h in
theorem dfs_nil {e : Nat → Nat → Bool} {n start : Nat} : ∀ (f : Nat) (found : List (List Nat)), dfsF e n start f [] found = found
  | 0, _ => rfl
  | _ + 1, _ => rfl
omit h in
theorem meas_pos {n start : Nat} : ∀ {st : List (List Nat)}, st.length ≤ measW n start st
  | [] => by simp [measW]
  | w :: st => by
    have a := waysN_pos (n - start - w.length)
    have b := meas_pos (n := n) (start := start) (st := st)
    unfold measW at b ⊢
    rw [List.length_cons, List.map_cons, List.sum_cons]
    omega
omit h in
theorem dfs_snoc {e : Nat → Nat → Bool} {n start f : Nat} {st found : List (List Nat)} {w : List Nat} : dfsF e n start (f + 1) (st ++ [w]) found = dfsF e n start f (st ++ (fitsW e n start w).map fun k => w ++ [k]) (if e (w.getLastD 0) start then found ++ [w] else found) := by
  simp [dfsF, List.getLast?_append]
omit h in
theorem dfs_app {e : Nat → Nat → Bool} {n start : Nat} : ∀ (f : Nat) (st found : List (List Nat)), dfsF e n start f st found = found ++ dfsF e n start f st []
  | 0, st, found => by simp [dfsF]
  | f + 1, st, found => by
    rcases List.eq_nil_or_concat st with rfl | ⟨st, w, rfl⟩
    · simp [dfsF]
    · rw [List.concat_eq_append, dfs_snoc, dfs_snoc, dfs_app f _ (if e (w.getLastD 0) start then found ++ [w] else found), dfs_app f _ (if e (w.getLastD 0) start then [] ++ [w] else [])]
      split <;> simp
omit h in
theorem dfs_len {e : Nat → Nat → Bool} {n start : Nat} : ∀ (f : Nat) (st : List (List Nat)), (∀ w ∈ st, Way e n start w) → (dfsF e n start f st []).length ≤ measW n start st
  | 0, st, _ => by simp [dfsF]
  | f + 1, st, hw => by
    rcases List.eq_nil_or_concat st with rfl | ⟨st, w, rfl⟩
    · simp [dfsF]
    · rw [List.concat_eq_append] at *
      have hW := hw w (by simp)
      have hd := meas_step (st := st) hW
      have ih := dfs_len f (st ++ (fitsW e n start w).map fun k => w ++ [k]) (fun u hu => by
        rcases List.mem_append.mp hu with hu | hu
        · exact hw u (by simp [hu])
        · obtain ⟨k, hk, rfl⟩ := List.mem_map.mp hu
          exact hW.snoc hk)
      rw [dfs_snoc, dfs_app, List.length_append]
      split <;> simp <;> omega
theorem while_circ {start : Nat} (τ : Tp) (o6 : Option Sl) (h6 : noOwn [o6] [0] = true) : ∀ (f : Nat) (st found : List (List Nat)) (fuel : Nat) (o4 o5 : Option Sl), (∀ w ∈ st, Way (edge line) line.length start w) → measW line.length start st ≤ f → f < fuel → found.length + measW line.length start st ≤ 90000 →
    ∃ p4 p5, whileLoop (evT Φ W_circles_0) (exs Φ B_circles_0) fuel [sD (oTT line), sO (found.map nT), sI start, sO (st.map nT), o4, o5, o6] τ = .nx [sD (oTT line), sO ((dfsF (edge line) line.length start f st found).map nT), sI start, sO [], p4, p5, o6] τ
  | f, [], found, fuel, o4, o5, _, _, hf, _ => by
    obtain ⟨m, rfl⟩ : ∃ m, fuel = m + 1 := ⟨fuel - 1, by omega⟩
    refine ⟨o4, o5, ?_⟩
    rw [dfs_nil]
    unfold W_circles_0
    simp [whileLoop, evT, ev, look_own]
  | 0, w :: st, found, fuel, o4, o5, _, hm, _, _ => by
    have := meas_pos (n := line.length) (start := start) (st := w :: st)
    simp at this
    omega
  | f + 1, w0 :: st0, found, fuel, o4, o5, hw, hm, hf, hb => by
    obtain ⟨m, rfl⟩ : ∃ m, fuel = m + 1 := ⟨fuel - 1, by omega⟩
    obtain ⟨st, w, e0⟩ : ∃ st w, w0 :: st0 = st ++ [w] := by
      rcases List.eq_nil_or_concat (w0 :: st0) with e | ⟨st, w, e⟩
      · cases e
      · exact ⟨st, w, by rw [e, List.concat_eq_append]⟩
    rw [e0] at hw hm hb ⊢
    have hW := hw w (by simp)
    have hd := meas_step (st := st) hW
    have hl := meas_pos (n := line.length) (start := start) (st := st ++ [w])
    simp at hl
    obtain ⟨p4, p5, e⟩ := while_circ τ o6 h6 f (st ++ (fitsW (edge line) line.length start w).map fun k => w ++ [k]) (if edge line (w.getLastD 0) start then found ++ [w] else found) m (sD (nT w)) (sD (.list (nI (fitsW (edge line) line.length start w)))) (fun u hu => by
      rcases List.mem_append.mp hu with hu | hu
      · exact hw u (by simp [hu])
      · obtain ⟨k, hk, rfl⟩ := List.mem_map.mp hu
        exact hW.snoc hk) (by omega) (by omega) (by split <;> (try simp) <;> omega)
    refine ⟨p4, p5, ?_⟩
    have t : evT Φ W_circles_0 [sD (oTT line), sO (found.map nT), sI start, sO ((st ++ [w]).map nT), o4, o5, o6] τ = .ok true [sD (oTT line), sO (found.map nT), sI start, sO ((st ++ [w]).map nT), o4, o5, o6] τ := by
      unfold W_circles_0
      simp [evT, ev, look_own]
    rw [whileLoop, t]
    dsimp only
    rw [step_body h hW found st (by omega) (by omega) o4 o5 o6 h6 τ]
    dsimp only
    rw [e, dfs_snoc]
end
/-- all circles, in the order of the search -/
def circF (e : Nat → Nat → Bool) (n : Nat) : List (List Nat) := (List.range n).flatMap fun s => dfsF e n s 1000 [[s]] []
theorem way_one {e : Nat → Nat → Bool} {n s : Nat} (hs : s < n) : ∀ w ∈ [[s]], Way e n s w := fun w hw => by
  rw [List.mem_singleton] at hw
  subst hw
  exact ⟨rfl, by simp, fun k hk => by simp at hk; omega, fun i hi => by simp at hi⟩
theorem meas_one {n s : Nat} (hn : n ≤ 6) : measW n s [[s]] ≤ 400 := by
  unfold measW
  simp only [List.map_cons, List.map_nil, List.sum_cons, List.sum_nil, List.length_singleton]
  have : n - s - 1 = 0 ∨ n - s - 1 = 1 ∨ n - s - 1 = 2 ∨ n - s - 1 = 3 ∨ n - s - 1 = 4 ∨ n - s - 1 = 5 := by omega
  rcases this with e | e | e | e | e | e <;> rw [e] <;> decide
theorem circ_for {line : List (List (Option Int))} (h : Ln line) (τ : Tp) : ∀ (l : List Nat) (found : List (List Nat)) (o2 o3 o4 o5 : Option Sl), (∀ s ∈ l, s < line.length) → found.length + l.length * 400 ≤ 80000 →
    ∃ p2 p3 p4 p5, forLoop (exs Φ B_circles_1) (.name 2) (nI l) [sD (oTT line), sO (found.map nT), o2, o3, o4, o5, none] τ = .nx [sD (oTT line), sO ((found ++ l.flatMap fun s => dfsF (edge line) line.length s 1000 [[s]] []).map nT), p2, p3, p4, p5, none] τ
  | [], found, o2, o3, o4, o5, _, _ => ⟨o2, o3, o4, o5, by simp [forLoop]⟩
  | s :: l, found, o2, o3, o4, o5, hl, hb => by
    have hs := hl s (by simp)
    have m1 := meas_one (n := line.length) (s := s) h.l2
    rw [List.length_cons] at hb
    have dl := dfs_len (e := edge line) 1000 [[s]] (way_one hs)
    obtain ⟨q4, q5, e⟩ := while_circ h τ none rfl 1000 [[s]] found 100000 o4 o5 (way_one hs) (by omega) (by omega) (by omega)
    rw [dfs_app] at e
    obtain ⟨p2, p3, p4, p5, e2⟩ := circ_for h τ l (found ++ dfsF (edge line) line.length s 1000 [[s]] []) (sI s) (sO []) q4 q5 (fun x hx => hl x (by simp [hx])) (by rw [List.length_append]; omega)
    refine ⟨p2, p3, p4, p5, ?_⟩
    have hb2 : exs Φ B_circles_1 [sD (oTT line), sO (found.map nT), sI s, o3, o4, o5, none] τ = .nx [sD (oTT line), sO ((found ++ dfsF (edge line) line.length s 1000 [[s]] []).map nT), sI s, sO [], q4, q5, none] τ := by
      unfold B_circles_1
      have e' : whileLoop (evT Φ W_circles_0) (exs Φ B_circles_0) 100000 [sD (oTT line), sO (found.map nT), sI s, sO [PyData.tuple [PyData.int s]], o4, o5, none] τ = .nx [sD (oTT line), sO ((found ++ dfsF (edge line) line.length s 1000 [[s]] []).map nT), sI s, sO [], q4, q5, none] τ := e
      have hf : F_circles_0 [sD (oTT line), sO (found.map nT), sI s, sO [PyData.tuple [PyData.int s]], o4, o5, none] τ = 100000 := rfl
      generalize (found ++ dfsF (edge line) line.length s 1000 [[s]] []).map nT = Z at *
      simp [exs, ex, ev, evA, evT, evP, evO, evI, look_br, look_own, share_br, slotOf_br, setAll, shareAll, hf, e']
    simp only [nI, List.map_cons, forLoop, setTg, List.set]
    rw [hb2]
    dsimp only
    rw [e2, List.flatMap_cons, List.append_assoc]
theorem circF_len {e : Nat → Nat → Bool} {n : Nat} (hn : n ≤ 6) : (circF e n).length ≤ 2400 := by
  unfold circF
  have go : ∀ (l : List Nat), (∀ s ∈ l, s < n) → (l.flatMap fun s => dfsF e n s 1000 [[s]] []).length ≤ l.length * 400 := by
    intro l
    induction l with
    | nil => simp
    | cons s l ih =>
      intro h
      have a := ih fun x hx => h x (by simp [hx])
      have b := dfs_len (e := e) 1000 [[s]] (way_one (h s (by simp)))
      have c := meas_one (n := n) (s := s) hn
      rw [List.flatMap_cons, List.length_append, List.length_cons]
      omega
  have := go (List.range n) (fun s hs => by simpa using hs)
  rw [List.length_range] at this
  omega
/-- a circle, begun at its least place -/
def Circ (e : Nat → Nat → Bool) (n : Nat) (c : List Nat) : Prop := ∃ s, Way e n s c ∧ e (c.getLastD 0) s = true
theorem circF_mem {e : Nat → Nat → Bool} {n : Nat} (hn : n ≤ 6) {c : List Nat} : c ∈ circF e n ↔ Circ e n c := by
  unfold circF Circ
  rw [List.mem_flatMap]
  constructor
  · rintro ⟨s, hs, hc⟩
    have hs : s < n := by simpa using hs
    have m := meas_one (n := n) (s := s) hn
    rcases (dfs_mem 1000 [[s]] [] (way_one hs) (by omega) c).mp hc with h | ⟨w, _, _, h2, h3⟩
    · cases h
    · exact ⟨s, h2, h3⟩
  · rintro ⟨s, h2, h3⟩
    have hs : s < n := by
      have := h2.hd
      cases c with
      | nil => cases this
      | cons a t =>
        simp at this
        subst this
        exact (h2.lt a (by simp)).2
    have m := meas_one (n := n) (s := s) hn
    refine ⟨s, by simpa using hs, (dfs_mem 1000 [[s]] [] (way_one hs) (by omega) c).mpr (.inr ⟨[s], by simp, ?_, h2, h3⟩)⟩
    have := h2.hd
    cases c with
    | nil => cases this
    | cons a t =>
      simp at this
      subst this
      exact ⟨t, rfl⟩
theorem circF_nodup {e : Nat → Nat → Bool} {n : Nat} (hn : n ≤ 6) : (circF e n).Nodup := by
  unfold circF
  have go : ∀ (l : List Nat), l.Nodup → (∀ s ∈ l, s < n) → (l.flatMap fun s => dfsF e n s 1000 [[s]] []).Nodup := by
    intro l
    induction l with
    | nil => intro _ _; simp
    | cons s l ih =>
      intro hn2 h
      rw [List.nodup_cons] at hn2
      have hs := h s (by simp)
      rw [List.flatMap_cons, List.nodup_append]
      refine ⟨dfs_nodup 1000 [[s]] [] (way_one hs) (by simp) (by simp) (by simp), ih hn2.2 (fun x hx => h x (by simp [hx])), fun a ha b hb => ?_⟩
      rintro rfl
      rw [List.mem_flatMap] at hb
      obtain ⟨s2, hs2, hb⟩ := hb
      have m1 := meas_one (n := n) (s := s) hn
      have m2 := meas_one (n := n) (s := s2) hn
      rcases (dfs_mem 1000 [[s]] [] (way_one hs) (by omega) a).mp ha with z | ⟨_, _, _, w1, _⟩
      · cases z
      rcases (dfs_mem 1000 [[s2]] [] (way_one (h s2 (by simp [hs2]))) (by omega) a).mp hb with z | ⟨_, _, _, w2, _⟩
      · cases z
      have q := w1.hd.symm.trans w2.hd
      cases q
      exact hn2.1 hs2
  exact go _ List.nodup_range fun s hs => by simpa using hs
theorem circles_ok {line : List (List (Option Int))} (h : Ln line) (τ : Tp) : Φ "circles" [.d (oTT line)] τ = .ok (.d (.list (sortD ((circF (edge line) line.length).map nT)))) τ := by
  rw [Φ_circles]
  have k := line_ok h τ
  obtain ⟨p2, p3, p4, p5, e⟩ := circ_for h τ (List.range line.length) [] none none none none (fun s hs => by simpa using hs) (by simp; have := h.l2; omega)
  have r : itemsD .range1 [.int line.length] = some (nI (List.range line.length)) := by
    rw [it_range1 _ (small62_of _ (by omega) (by have := h.l2; omega))]
    simp [rangeD]
  have so : sortOk ((circF (edge line) line.length).map nT) = true := by
    have := circF_len (e := edge line) h.l2
    simp only [sortOk, Bool.and_eq_true, Bool.or_eq_true, okLen_iff, decide_eq_true_eq, List.length_map]
    refine ⟨.inr ?_, by omega⟩
    rw [List.all_eq_true]
    intro x hx
    obtain ⟨c, hc, rfl⟩ := List.mem_map.mp hx
    obtain ⟨s, hw, _⟩ := (circF_mem h.l2).mp hc
    cases c with
    | nil => exact absurd rfl hw.ne
    | cons a t =>
      show (nI (a :: t)).all isIntD = true
      rw [List.all_eq_true]
      intro y hy
      obtain ⟨i, _, rfl⟩ := List.mem_map.mp hy
      rfl
  have bs : bltD .sorted [.list ((circF (edge line) line.length).map nT)] = some (.fr (sortD ((circF (edge line) line.length).map nT))) := if_pos so
  have e' : forLoop (exs Φ B_circles_1) (.name 2) (nI (List.range line.length)) [sD (oTT line), sO [], none, none, none, none, none] τ = .nx [sD (oTT line), sO ((circF (edge line) line.length).map nT), p2, p3, p4, p5, none] τ := e
  generalize (circF (edge line) line.length).map nT = Z at *
  generalize nI (List.range line.length) = L at *
  simp [exs, ex, ev, evA, evT, evP, evO, evI, look_br, look_own, share_br, slotOf_br, setAll, shareAll, Dv.run, A_circles, N_circles, k, r, e', bs]
end K42

set_option Elab.async false
set_option linter.all false
set_option maxRecDepth 100000
set_option maxHeartbeats 1000000
/-! K42d: means and rates. -/
namespace K42
open PySem PySem.Spec PyProof.Rows L2 Dv
open Fx (fr Sm)
def wt (line : List (List (Option Int))) (a b : Nat) : Int := ((line[a]?.getD [])[b]?.getD none).getD 0
/-- the steps of a circle -/
def steps (c : List Nat) : List (Nat × Nat) := c.zip (c.tail ++ c.take 1)
def sumC (w : Nat → Nat → Int) (c : List Nat) : Int := ((steps c).map fun p => w p.1 p.2).sum
def meanF (w : Nat → Nat → Int) (c : List Nat) : Rat := Rat.divInt (sumC w c) c.length
theorem steps_len (c : List Nat) : (steps c).length = c.length := by
  unfold steps
  cases c <;> simp
theorem steps_get {c : List Nat} {i : Nat} (h : i < c.length) : (steps c)[i]'(by rw [steps_len]; exact h) = (c[i], if h2 : i + 1 < c.length then c[i + 1] else c[0]'(by omega)) := by
  unfold steps
  rw [List.getElem_zip]
  congr 1
  split
  · rename_i h2
    rw [List.getElem_append_left (by simp; omega)]
    simp
  · rename_i h2
    rw [List.getElem_append_right (by simp; omega)]
    simp [show i - (c.length - 1) = 0 by omega]
theorem head_get {c : List Nat} {s : Nat} (h : c.head? = some s) : ∃ hl : 0 < c.length, c[0] = s := by
  cases c with
  | nil => cases h
  | cons a t =>
    simp at h
    exact ⟨by simp, h⟩
theorem step_edge {e : Nat → Nat → Bool} {n : Nat} {c : List Nat} (h : Circ e n c) : ∀ p ∈ steps c, e p.1 p.2 = true ∧ p.1 < n ∧ p.2 < n := by
  obtain ⟨s, w, hc⟩ := h
  intro p hp
  obtain ⟨i, hi, rfl⟩ := List.mem_iff_getElem.mp hp
  rw [steps_len] at hi
  rw [steps_get hi]
  obtain ⟨hl, h0⟩ := head_get w.hd
  refine ⟨?_, (w.lt _ (List.getElem_mem _)).2, ?_⟩
  · dsimp only
    split
    · rename_i h2
      exact w.st i h2
    · rename_i h2
      rw [h0]
      rw [last_get w.ne] at hc
      have : i = c.length - 1 := by omega
      subst this
      exact hc
  · dsimp only
    split
    · exact (w.lt _ (List.getElem_mem _)).2
    · exact (w.lt _ (List.getElem_mem _)).2
theorem sum_abs {k : Nat} : ∀ {l : List Int}, (∀ x ∈ l, x.natAbs ≤ k) → l.sum.natAbs ≤ l.length * k
  | [], _ => by simp
  | x :: l, h => by
    rw [List.sum_cons, List.length_cons, Nat.add_mul, Nat.one_mul]
    have := h x (by simp)
    have := sum_abs (l := l) fun y hy => h y (by simp [hy])
    omega
section
variable {line : List (List (Option Int))} (h : Ln line)
include h
theorem circ_len {c : List Nat} (hc : Circ (edge line) line.length c) : 1 ≤ c.length ∧ c.length ≤ 6 := by
  obtain ⟨s, w, _⟩ := hc
  have := nodup_le w.nd w.lt
  have := h.l2
  have := List.length_pos_iff.mpr w.ne
  omega
theorem wt_at {a b : Nat} (ha : a < line.length) (hb : b < line.length) (he : edge line a b = true) : ∃ row, atI (line.map oT) (a : Int) = some (oT row) ∧ atI (row.map oD) (b : Int) = some (.int (wt line a b)) ∧ (wt line a b).natAbs ≤ 99 := by
  have hl := h.sq line[a] (List.getElem_mem ha)
  unfold edge at he
  unfold wt
  rw [List.getElem?_eq_getElem ha] at he ⊢
  simp only [Option.getD_some] at he ⊢
  rw [List.getElem?_eq_getElem (show b < line[a].length by omega)] at he ⊢
  simp only [Option.getD_some] at he ⊢
  obtain ⟨v, hv⟩ := Option.isSome_iff_exists.mp he
  have lo := h.lo line[a] (List.getElem_mem ha) v (by rw [← hv]; exact List.getElem_mem _)
  refine ⟨line[a], ?_, ?_, ?_⟩
  · rw [at_nat (by simpa using ha)]; simp
  · rw [at_nat (by simp; omega)]
    simp [hv, oD]
  · rw [hv]
    simp only [Option.getD_some]
    omega
theorem sum_bound {c : List Nat} (hc : Circ (edge line) line.length c) : (sumC (wt line) c).natAbs ≤ 594 := by
  have := sum_abs (k := 99) (l := (steps c).map fun p => wt line p.1 p.2) fun x hx => by
    obtain ⟨p, hp, rfl⟩ := List.mem_map.mp hx
    obtain ⟨e1, e2, e3⟩ := step_edge hc p hp
    obtain ⟨_, _, _, b⟩ := wt_at h e2 e3 e1
    exact b
  rw [List.length_map, steps_len] at this
  have := (circ_len h hc).2
  unfold sumC
  omega
theorem mean_sm {c : List Nat} (hc : Circ (edge line) line.length c) : Sm 10 (meanF (wt line) c) := by
  have a := sum_bound h hc
  have b := circ_len h hc
  exact Sm.divInt (by omega) (by omega) (by omega)
theorem mean_circ {c : List Nat} (hc : Circ (edge line) line.length c) (τ : Tp) : Φ "mean_of" [.d (oTT line), .d (nT c)] τ = .ok (.d (fr (meanF (wt line) c))) τ := by
  have b := circ_len h hc
  refine mean_ok (s := sumC (wt line) c) (n := c.length) ?_ (by omega) (Fx.sm_of (k := 8) (by omega) (by omega))
  have cm : ev Φ C_mean_of_0 [sD (oTT line), sD (nT c), none, none] τ = .ok (.fr ((steps c).map fun p => PyData.int (wt line p.1 p.2))) [sD (oTT line), sD (nT c), none, none] τ := by
    refine comp_map (l := steps c) (φ := fun p => .tuple [.int (p.1 : Nat), .int (p.2 : Nat)]) (env1 := [sD (oTT line), sD (nT c), none, none]) (envs := fun p => [sD (oTT line), sD (nT c), sI (p.1 : Nat), sI (p.2 : Nat)]) ?_ rfl (by rw [steps_len]; omega) (fun a _ => rfl) (fun a _ => rfl) rfl (fun a _ => rfl) fun p hp => ?_
    · have c1 : Dv.cutD (nI c) (some 1) none = nI c.tail := by rw [cut_tail, ← List.map_tail]
      have c2 : Dv.cutD (nI c) none (some 1) = nI (c.take 1) := by
        have := cut_to (nI c) 1
        rw [show ((1 : Nat) : Int) = 1 from rfl] at this
        rw [this]
        simp [nI, List.map_take]
      have c3 : (nI c.tail).length + (nI (c.take 1)).length ≤ 100000 := by simp; omega
      have c4 : zipD (nI c) (nI c.tail ++ nI (c.take 1)) = (steps c).map fun p => PyData.tuple [.int (p.1 : Nat), .int (p.2 : Nat)] := by
        rw [show nI c.tail ++ nI (c.take 1) = nI (c.tail ++ c.take 1) by rw [nI, nI, nI, List.map_append], zipD_map]
        rfl
      have c5 := add_tt _ _ c3
      generalize nI c.tail = T1 at *
      generalize nI (c.take 1) = T2 at *
      generalize (steps c).map (fun p => PyData.tuple [.int (p.1 : Nat), .int (p.2 : Nat)]) = Z at *
      simp [exs, ex, ev, evA, evT, evP, evO, evI, look_br, look_own, share_br, slotOf_br, setAll, shareAll, c1, c2, c5, c4]
    · obtain ⟨e1, e2, e3⟩ := step_edge hc p hp
      obtain ⟨row, x1, x2, _⟩ := wt_at h e2 e3 e1
      unfold K_mean_of_0
      simp [exs, ex, ev, evA, evT, evP, evO, evI, look_br, look_own, share_br, slotOf_br, setAll, shareAll, x1, x2]
  have sb := rb_sum_l ((steps c).map fun p => PyData.int (wt line p.1 p.2)) (intsD_map2 ..)
  simp [exs, ex, ev, evA, evT, evP, evO, evI, look_br, look_own, share_br, slotOf_br, setAll, shareAll, cm, sb, sumC]
end
/-- the greatest of some fractions -/
def IsMax (l : List Rat) : Option Rat → Prop
  | none => l = []
  | some B => B ∈ l ∧ ∀ q ∈ l, q ≤ B
theorem IsMax.eq {l m : List Rat} {o p : Option Rat} (h1 : IsMax l o) (h2 : IsMax m p) (h : ∀ q, q ∈ l ↔ q ∈ m) : o = p := by
  cases o with
  | none =>
    have e : l = [] := h1
    subst e
    cases p with
    | none => rfl
    | some B => exact absurd ((h B).mpr h2.1) (by simp)
  | some B =>
    cases p with
    | none =>
      have e : m = [] := h2
      subst e
      exact absurd ((h B).mp h1.1) (by simp)
    | some C =>
      have a := h1.2 C ((h C).mpr h2.1)
      have b := h2.2 B ((h B).mp h1.1)
      congr 1
      grind
theorem isMax_exists : ∀ (l : List Rat), ∃ o, IsMax l o
  | [] => ⟨none, rfl⟩
  | q :: l => by
    obtain ⟨o, h⟩ := isMax_exists l
    cases o with
    | none =>
      have e : l = [] := h
      subst e
      exact ⟨some q, by simp, by simp⟩
    | some B =>
      by_cases c : B ≤ q
      · refine ⟨some q, by simp, fun x hx => ?_⟩
        rcases List.mem_cons.mp hx with rfl | hx
        · grind
        · have := h.2 x hx
          grind
      · refine ⟨some B, List.mem_cons_of_mem _ h.1, fun x hx => ?_⟩
        rcases List.mem_cons.mp hx with rfl | hx
        · grind
        · exact h.2 x hx
theorem mem_sort {c : D} {l : List D} : c ∈ sortD l ↔ c ∈ l := List.mem_mergeSort
theorem rate_is {line : List (List (Option Int))} (h : Ln line) {o : Option Rat} (ho : IsMax ((circF (edge line) line.length).map (meanF (wt line))) o) (τ : Tp) : Φ "rate" [.d (oTT line)] τ = .ok (.d (oF o)) τ := by
  have cs := circles_ok h τ
  have hm := fun c => circF_mem (e := edge line) h.l2 (c := c)
  cases o with
  | none =>
    have e : (circF (edge line) line.length).map (meanF (wt line)) = [] := ho
    rw [List.map_eq_nil_iff] at e
    rw [e] at cs
    have e2 : sortD (([] : List (List Nat)).map nT) = [] := by simp [sortD]
    rw [e2] at cs
    rw [Φ_rate]
    simp [exs, ex, ev, evA, evT, evP, evO, evI, look_br, look_own, share_br, slotOf_br, setAll, shareAll, Dv.run, A_rate, N_rate, cs, forLoop, oF]
  | some B =>
    obtain ⟨c0, hc0, e0⟩ := List.mem_map.mp ho.1
    refine rate_ok (by rw [← e0]; exact mean_sm h ((hm c0).mp hc0)) cs (fun c hc => ?_) ⟨nT c0, mem_sort.mpr (List.mem_map.mpr ⟨c0, hc0, rfl⟩), by rw [← e0]; exact mean_circ h ((hm c0).mp hc0) τ⟩
    obtain ⟨c1, hc1, rfl⟩ := List.mem_map.mp (mem_sort.mp hc)
    exact ⟨meanF (wt line) c1, mean_sm h ((hm c1).mp hc1), ho.2 _ (List.mem_map.mpr ⟨c1, hc1, rfl⟩), mean_circ h ((hm c1).mp hc1) τ⟩
end K42

set_option Elab.async false
set_option linter.all false
set_option maxRecDepth 100000
set_option maxHeartbeats 1000000
/-! K42f: matrices of times: products, powers. -/
namespace K42
open PySem PySem.Spec PyProof.Rows L2 Dv
open Fx (fr Sm)
/-- a comprehension whose first element hands a list of one's own on -/
theorem comp_two {Φ : Orc} {env env1 env2 : Dv.Env} {τ τ1 : Tp} {α : Type} {φ : α → D} {g : α → D} {en1 en2 : α → Dv.Env} {elt : E} {tg : Tg} {ik : IK} {its : Es} {own : List (Str × Nat)} {l : List α} (hne : l ≠ [])
    (hit : evI Φ ik its env τ = .ok (l.map φ) env1 τ1) (hno : noOwn env1 (own.map (·.2)) = true) (hl : l.length ≤ 100000) (hset1 : ∀ a ∈ l, setTg tg (φ a) (wipeE env1 (own.map (·.2))) = some (en1 a))
    (hset2 : ∀ a ∈ l, setTg tg (φ a) (wipeE env2 (own.map (·.2))) = some (en2 a)) (hw : ∀ a ∈ l, wipeE (en2 a) (own.map (·.2)) = wipeE env2 (own.map (·.2))) (hb : ∀ a ∈ l, backE env1 (en2 a) (own.map (·.2)) = env2)
    (he1 : ∀ a ∈ l, ∃ rv, ev Φ elt (en1 a) τ1 = .ok rv (en2 a) τ1 ∧ share (en2 a) rv = some (.d (g a), en2 a)) (he2 : ∀ a ∈ l, ∃ rv, ev Φ elt (en2 a) τ1 = .ok rv (en2 a) τ1 ∧ share (en2 a) rv = some (.d (g a), en2 a)) :
    ev Φ (.comp elt tg ik its .yes own) env τ = .ok (.fr (l.map g)) env2 τ1 := by
  rw [comp_evI, hit]
  simp only [bind_r, hno, okLen, List.length_map, hl, decide_true, Bool.and_self, if_true]
  cases l with
  | nil => exact absurd rfl hne
  | cons a l =>
    obtain ⟨rv, r1, r2⟩ := he1 a (by simp)
    have ty : ∀ e, evT Φ .yes e τ1 = .ok true e τ1 := fun e => by simp only [evT]
    obtain ⟨e2, h1, h2⟩ := comp_loop (φ := φ) (p := fun _ => true) (g := g) (envs := en2) (env1 := env2) (fe := ev Φ elt) (ft := evT Φ .yes) (tg := tg) (vs := own.map (·.2)) (τ := τ1) l [g a] (en2 a) (fun b hb => hset2 b (by simp [hb])) (fun b hb => hw b (by simp [hb])) (fun b _ => ty _) (fun b hb _ => he2 b (by simp [hb])) (hw a (by simp))
    rw [List.map_cons, compLoop, hset1 a (by simp)]
    dsimp only
    rw [ty]
    dsimp only
    rw [r1]
    dsimp only
    rw [r2]
    dsimp only
    rw [List.nil_append, h1]
    simp only [bind_r]
    have e : l.filter (fun _ => true) = l := List.filter_eq_self.mpr (by simp)
    rw [e]
    rcases h2 with rfl | ⟨b, hb2, rfl⟩
    · rw [hb a (by simp)]; rfl
    · rw [hb b (by simp [hb2])]; rfl
def vecO (n : Nat) (x : Nat → Option Int) : List (Option Int) := (List.range n).map x
def matO (n : Nat) (f : Nat → Nat → Option Int) : List (List (Option Int)) := (List.range n).map fun i => vecO n (f i)
def dotO (n : Nat) (f g : Nat → Option Int) : Option Int := (List.range n).foldl (fun b k => laterO b (joinedO (f k) (g k))) none
theorem matO_len (n : Nat) (f : Nat → Nat → Option Int) : (matO n f).length = n := by simp [matO]
theorem vecO_len (n : Nat) (x : Nat → Option Int) : (vecO n x).length = n := by simp [vecO]
theorem image_row (n : Nat) (f x : Nat → Option Int) : imageO [vecO n f] (vecO n x) = [dotO n f x] := by
  simp only [imageO, List.map_cons, List.map_nil, vecO, dotO]
  rw [List.zip_map', List.foldl_map]
theorem image_mat (n : Nat) (f : Nat → Nat → Option Int) (x : Nat → Option Int) : imageO (matO n f) (vecO n x) = vecO n fun i => dotO n (f i) x := by
  unfold matO
  rw [imageO, List.map_map]
  unfold vecO
  apply List.map_congr_left
  intro i _
  simp only [Function.comp_apply, dotO]
  rw [List.zip_map', List.foldl_map]
def mulO (n : Nat) (f g : Nat → Nat → Option Int) : Nat → Nat → Option Int := fun i j => dotO n (f i) fun k => g k j
theorem mat_row {n : Nat} {f : Nat → Nat → Option Int} {i : Nat} (hi : i < n) : atI ((matO n f).map oT) (i : Int) = some (oT (vecO n (f i))) := by
  rw [at_nat (by simp [matO]; exact hi)]
  simp [matO]
theorem vec_at {n : Nat} {x : Nat → Option Int} {i : Nat} (hi : i < n) : atI ((vecO n x).map oD) (i : Int) = some (oD (x i)) := by
  rw [at_nat (by simp [vecO]; exact hi)]
  simp [vecO]
theorem range_it {n : Nat} (hn : n ≤ 1000) : itemsD .range1 [.int n] = some ((List.range n).map fun (k : Nat) => PyData.int k) := by
  rw [it_range1 _ (small62_of _ (by omega) (by omega))]
  simp [rangeD]
theorem product_ok {n : Nat} (hn : n ≤ 10) (hn1 : 0 < n) (f g : Nat → Nat → Option Int) (τ : Tp) : Φ "line_product" [.d (oTT (matO n f)), .d (oTT (matO n g))] τ = .ok (.d (oTT (matO n (mulO n f g)))) τ := by
  rw [Φ_line_product]
  let e0 : Dv.Env := [sD (oTT (matO n f)), sD (oTT (matO n g)), none, none, none, none]
  let cols : List D := (List.range n).map fun k => oT (vecO n fun i => g i k)
  have c2 : ∀ k, k < n → ev Φ C_line_product_2 [sD (oTT (matO n f)), sD (oTT (matO n g)), none, none, sI (k : Nat), none] τ = .ok (.fr ((List.range n).map fun i => oD (g i k))) [sD (oTT (matO n f)), sD (oTT (matO n g)), none, none, sI (k : Nat), none] τ := fun k hk => by
    refine comp_map (l := List.range n) (φ := fun i => oT (vecO n (g i))) (env1 := [sD (oTT (matO n f)), sD (oTT (matO n g)), none, none, sI (k : Nat), none]) (envs := fun i => [sD (oTT (matO n f)), sD (oTT (matO n g)), none, sD (oT (vecO n (g i))), sI (k : Nat), none]) ?_ rfl (by simp; omega) (fun a _ => rfl) (fun a _ => rfl) rfl (fun a _ => rfl) fun i hi => ?_
    · simp [exs, ex, ev, evA, evT, evP, evO, evI, look_br, look_own, share_br, slotOf_br, setAll, shareAll]
      simp [matO]
    · simp at hi
      unfold K_line_product_2
      refine ⟨.sh (.d (oD (g i k))), ?_, rfl⟩
      have := vec_at (x := g i) hk
      generalize vecO n (g i) = v at *
      simp [exs, ex, ev, evA, evT, evP, evO, evI, look_br, look_own, share_br, slotOf_br, setAll, shareAll, this]
  have c3 : ev Φ C_line_product_3 e0 τ = .ok (.fr cols) e0 τ := by
    refine comp_map (l := List.range n) (φ := fun (k : Nat) => PyData.int k) (env1 := e0) (envs := fun k => [sD (oTT (matO n f)), sD (oTT (matO n g)), none, none, sI (k : Nat), none]) ?_ rfl (by simp; omega) (fun a _ => rfl) (fun a _ => rfl) rfl (fun a _ => rfl) fun k hk => ?_
    · have r := range_it (n := n) (by omega)
      have hl := matO_len n g
      simp only [e0]
      generalize matO n g = G at *
      simp [exs, ex, ev, evA, evT, evP, evO, evI, look_br, look_own, share_br, slotOf_br, setAll, shareAll, hl, r]
    · simp at hk
      unfold K_line_product_3
      have := c2 k hk
      have v : (List.range n).map (fun i => oD (g i k)) = (vecO n fun i => g i k).map oD := by simp [vecO]
      rw [v] at this
      refine ⟨.sh (.d (oT (vecO n fun i => g i k))), ?_, rfl⟩
      generalize vecO n (fun i => g i k) = w at *
      simp [exs, ex, ev, evA, evT, evP, evO, evI, look_br, look_own, share_br, slotOf_br, setAll, shareAll, this]
  have c0 : ∀ (i : Nat) (s2 : Option Sl), s2 = sO cols ∨ s2 = sD (.list cols) → ev Φ C_line_product_0 [sD (oTT (matO n f)), sD (oTT (matO n g)), s2, sD (oT (vecO n (f i))), none, none] τ = .ok (.fr ((List.range n).map fun k => oD (mulO n f g i k))) [sD (oTT (matO n f)), sD (oTT (matO n g)), sD (.list cols), sD (oT (vecO n (f i))), none, none] τ := by
    intro i s2 hs
    refine comp_map (l := List.range n) (φ := fun k => oT (vecO n fun i => g i k)) (env1 := [sD (oTT (matO n f)), sD (oTT (matO n g)), sD (.list cols), sD (oT (vecO n (f i))), none, none]) (envs := fun k => [sD (oTT (matO n f)), sD (oTT (matO n g)), sD (.list cols), sD (oT (vecO n (f i))), none, sD (oT (vecO n fun i => g i k))]) ?_ rfl (by simp; omega) (fun a _ => rfl) (fun a _ => rfl) rfl (fun a _ => rfl) fun k hk => ?_
    · generalize matO n f = F
      generalize matO n g = G
      generalize vecO n (f i) = Rw
      show _ = Dv.R.ok cols _ _
      generalize cols = C at *
      rcases hs with rfl | rfl
      · simp [exs, ex, ev, evA, evT, evP, evO, evI, look_br, look_own, share_br, slotOf_br, setAll, shareAll, share_own]
      · simp [exs, ex, ev, evA, evT, evP, evO, evI, look_br, look_own, share_br, slotOf_br, setAll, shareAll]
    · have im := image_ok [vecO n (f i)] (vecO n fun i => g i k) (by simp) τ
      rw [image_row] at im
      have hm : mulO n f g i k = dotO n (f i) fun i => g i k := rfl
      rw [← hm] at im
      simp only [oTT, List.map_cons, List.map_nil] at im
      unfold K_line_product_0
      refine ⟨.sh (.d (oD (mulO n f g i k))), ?_, rfl⟩
      have a0 : atI [oD (mulO n f g i k)] 0 = some (oD (mulO n f g i k)) := rfl
      generalize mulO n f g i k = z at *
      generalize vecO n (f i) = R at *
      generalize (vecO n fun i => g i k) = S at *
      generalize cols = C at *
      have im' : Φ "line_image" [.d (.tuple [oT R]), .d (oT S)] τ = .ok (.d (.tuple [oD z])) τ := im
      simp [exs, ex, ev, evA, evT, evP, evO, evI, look_br, look_own, share_br, slotOf_br, setAll, shareAll, im', a0]
  have c1 : ev Φ C_line_product_1 [sD (oTT (matO n f)), sD (oTT (matO n g)), sO cols, none, none, none] τ = .ok (.fr ((List.range n).map fun i => oT (vecO n (mulO n f g i)))) [sD (oTT (matO n f)), sD (oTT (matO n g)), sD (.list cols), none, none, none] τ := by
    have hv : ∀ i, (List.range n).map (fun k => oD (mulO n f g i k)) = (vecO n (mulO n f g i)).map oD := fun i => by simp [vecO]
    refine comp_two (l := List.range n) (φ := fun i => oT (vecO n (f i))) (env1 := [sD (oTT (matO n f)), sD (oTT (matO n g)), sO cols, none, none, none]) (en1 := fun i => [sD (oTT (matO n f)), sD (oTT (matO n g)), sO cols, sD (oT (vecO n (f i))), none, none]) (en2 := fun i => [sD (oTT (matO n f)), sD (oTT (matO n g)), sD (.list cols), sD (oT (vecO n (f i))), none, none]) (by simp; omega) ?_ rfl (by simp; omega) (fun a _ => rfl) (fun a _ => rfl) (fun a _ => rfl) (fun a _ => rfl) (fun i hi => ?_) (fun i hi => ?_)
    · simp [exs, ex, ev, evA, evT, evP, evO, evI, look_br, look_own, share_br, slotOf_br, setAll, shareAll]
      simp [matO]
    · have := c0 i _ (.inl rfl)
      rw [hv] at this
      unfold K_line_product_1
      refine ⟨.sh (.d (oT (vecO n (mulO n f g i)))), ?_, rfl⟩
      generalize vecO n (mulO n f g i) = Z at *
      simp [exs, ex, ev, evA, evT, evP, evO, evI, look_br, look_own, share_br, slotOf_br, setAll, shareAll, this]
    · have := c0 i _ (.inr rfl)
      rw [hv] at this
      unfold K_line_product_1
      refine ⟨.sh (.d (oT (vecO n (mulO n f g i)))), ?_, rfl⟩
      generalize vecO n (mulO n f g i) = Z at *
      simp [exs, ex, ev, evA, evT, evP, evO, evI, look_br, look_own, share_br, slotOf_br, setAll, shareAll, this]
  have fin : (List.range n).map (fun i => oT (vecO n (mulO n f g i))) = (matO n (mulO n f g)).map oT := by simp [matO]
  rw [fin] at c1
  simp only [e0] at c3
  generalize matO n (mulO n f g) = Z at *
  generalize matO n f = F at *
  generalize matO n g = G at *
  simp [exs, ex, ev, evA, evT, evP, evO, evI, look_br, look_own, share_br, slotOf_br, setAll, shareAll, Dv.run, A_line_product, N_line_product, c3, c1]
/-! ### powers, all moved, runs -/
def unitO : Nat → Nat → Option Int := fun i j => if i = j then some 0 else none
def powO (n : Nat) (f : Nat → Nat → Option Int) : Nat → Nat → Nat → Option Int
  | 0 => unitO
  | m + 1 => mulO n (powO n f m) f
theorem power_ok {n : Nat} {f : Nat → Nat → Option Int} (h : Ln (matO n f)) {m : Nat} (hm : m ≤ 60) (τ : Tp) : Φ "line_power" [.d (oTT (matO n f)), .d (.int m)] τ = .ok (.d (oTT (matO n (powO n f m)))) τ := by
  rw [Φ_line_power]
  have k := line_ok h τ
  have hn1 := h.l1
  have hn := h.l2
  rw [matO_len] at hn1 hn
  have hl : ((matO n f).map oT).length = n := by simp [matO]
  have c0 : ∀ i : Nat, ev Φ C_line_power_0 [sD (oTT (matO n f)), sI m, sI n, none, none, sI (i : Nat), none] τ = .ok (.fr ((List.range n).map fun j => oD (unitO i j))) [sD (oTT (matO n f)), sI m, sI n, none, none, sI (i : Nat), none] τ := fun i => by
    refine comp_map (l := List.range n) (φ := fun (k : Nat) => PyData.int k) (env1 := [sD (oTT (matO n f)), sI m, sI n, none, none, sI (i : Nat), none]) (envs := fun (j : Nat) => [sD (oTT (matO n f)), sI m, sI n, none, sI (j : Nat), sI (i : Nat), none]) ?_ rfl (by simp; omega) (fun a _ => rfl) (fun a _ => rfl) rfl (fun a _ => rfl) fun j hj => ?_
    · have r := range_it (n := n) (by omega)
      simp [exs, ex, ev, evA, evT, evP, evO, evI, look_br, look_own, share_br, slotOf_br, setAll, shareAll, r]
    · unfold K_line_power_0
      refine ⟨.sh (.d (oD (unitO i j))), ?_, rfl⟩
      by_cases c : i = j
      · subst c
        simp [exs, ex, ev, evA, evT, evP, evO, evI, look_br, look_own, share_br, slotOf_br, setAll, shareAll, unitO, oD]
      · have c' : ¬ ((i : Int) = j) := by omega
        simp [exs, ex, ev, evA, evT, evP, evO, evI, look_br, look_own, share_br, slotOf_br, setAll, shareAll, unitO, oD, c, c']
  have c1 : ev Φ C_line_power_1 [sD (oTT (matO n f)), sI m, sI n, none, none, none, none] τ = .ok (.fr ((List.range n).map fun i => oT (vecO n (unitO i)))) [sD (oTT (matO n f)), sI m, sI n, none, none, none, none] τ := by
    refine comp_map (l := List.range n) (φ := fun (k : Nat) => PyData.int k) (env1 := [sD (oTT (matO n f)), sI m, sI n, none, none, none, none]) (envs := fun (i : Nat) => [sD (oTT (matO n f)), sI m, sI n, none, none, sI (i : Nat), none]) ?_ rfl (by simp; omega) (fun a _ => rfl) (fun a _ => rfl) rfl (fun a _ => rfl) fun i hi => ?_
    · have r := range_it (n := n) (by omega)
      simp [exs, ex, ev, evA, evT, evP, evO, evI, look_br, look_own, share_br, slotOf_br, setAll, shareAll, r]
    · have := c0 i
      have v : (List.range n).map (fun j => oD (unitO i j)) = (vecO n (unitO i)).map oD := by simp [vecO]
      rw [v] at this
      unfold K_line_power_1
      refine ⟨.sh (.d (oT (vecO n (unitO i)))), ?_, rfl⟩
      generalize vecO n (unitO i) = Z at *
      simp [exs, ex, ev, evA, evT, evP, evO, evI, look_br, look_own, share_br, slotOf_br, setAll, shareAll, this]
  have fin : (List.range n).map (fun i => oT (vecO n (unitO i))) = (matO n (powO n f 0)).map oT := by simp [matO, powO]
  rw [fin] at c1
  have loop : ∀ (l : List D) (q : Nat) (o : Option Sl), ∃ p, forLoop (exs Φ B_line_power_0) (.name 6) (l.map id) [sD (oTT (matO n f)), sI m, sI n, sD (oTT (matO n (powO n f q))), none, none, o] τ = .nx [sD (oTT (matO n f)), sI m, sI n, sD (oTT (matO n (powO n f (q + l.length)))), none, none, p] τ := by
    intro l
    induction l with
    | nil => exact fun q o => ⟨o, rfl⟩
    | cons x l ih =>
      intro q o
      obtain ⟨p, e⟩ := ih (q + 1) (sD x)
      refine ⟨p, ?_⟩
      have hb : exs Φ B_line_power_0 [sD (oTT (matO n f)), sI m, sI n, sD (oTT (matO n (powO n f q))), none, none, sD x] τ = .nx [sD (oTT (matO n f)), sI m, sI n, sD (oTT (matO n (powO n f (q + 1)))), none, none, sD x] τ := by
        have := product_ok (n := n) (by omega) hn1 (powO n f q) f τ
        unfold B_line_power_0
        show _ = SR.nx [sD (oTT (matO n f)), sI m, sI n, sD (oTT (matO n (mulO n (powO n f q) f))), none, none, sD x] τ
        generalize matO n (mulO n (powO n f q) f) = Z at *
        generalize matO n (powO n f q) = Y at *
        generalize matO n f = F at *
        simp [exs, ex, ev, evA, evT, evP, evO, evI, look_br, look_own, share_br, slotOf_br, setAll, shareAll, this]
      simp only [List.map_cons, id, forLoop, setTg, List.set]
      rw [hb]
      dsimp only
      rw [e, List.length_cons, show q + 1 + l.length = q + (l.length + 1) by omega]
  obtain ⟨p, e⟩ := loop ((List.range m).map fun (k : Nat) => PyData.int k) 0 none
  rw [List.map_id, List.length_map, List.length_range, Nat.zero_add] at e
  have r := range_it (n := m) (by omega)
  have hm' : (m : Int) ≤ 60 := by omega
  generalize ((List.range m).map fun (k : Nat) => PyData.int k) = L at *
  generalize matO n (powO n f m) = Z at *
  generalize matO n (powO n f 0) = Y at *
  generalize matO n f = F at *
  have hl2 : F.length = n := by simpa using hl
  simp [exs, ex, ev, evA, evT, evP, evO, evI, look_br, look_own, share_br, slotOf_br, setAll, shareAll, Dv.run, A_line_power, N_line_power, k, c1, hm', r, e, hl2]
def moveO (f : Nat → Nat → Option Int) (b : Int) : Nat → Nat → Option Int := fun i j => joinedO (f i j) (some b)
theorem moved_ok {n : Nat} (hn : n ≤ 1000) (f : Nat → Nat → Option Int) (b : Int) (τ : Tp) : Φ "moved_by" [.d (oTT (matO n f)), .d (.int b)] τ = .ok (.d (oTT (matO n (moveO f b)))) τ := by
  rw [Φ_moved_by]
  have c0 : ∀ i : Nat, ev Φ C_moved_by_0 [sD (oTT (matO n f)), sI b, none, sD (oT (vecO n (f i)))] τ = .ok (.fr ((List.range n).map fun j => oD (moveO f b i j))) [sD (oTT (matO n f)), sI b, none, sD (oT (vecO n (f i)))] τ := fun i => by
    refine comp_map (l := List.range n) (φ := fun j => oD (f i j)) (env1 := [sD (oTT (matO n f)), sI b, none, sD (oT (vecO n (f i)))]) (envs := fun j => [sD (oTT (matO n f)), sI b, sD (oD (f i j)), sD (oT (vecO n (f i)))]) ?_ rfl (by simp; omega) (fun a _ => rfl) (fun a _ => rfl) rfl (fun a _ => rfl) fun j hj => ?_
    · simp [exs, ex, ev, evA, evT, evP, evO, evI, look_br, look_own, share_br, slotOf_br, setAll, shareAll]
      simp [vecO]
    · have := joined_ok (f i j) (some b) τ
      unfold K_moved_by_0
      refine ⟨.sh (.d (oD (moveO f b i j))), ?_, rfl⟩
      have this' : Φ "joined" [.d (oD (f i j)), .d (.int b)] τ = .ok (.d (oD (moveO f b i j))) τ := this
      simp [exs, ex, ev, evA, evT, evP, evO, evI, look_br, look_own, share_br, slotOf_br, setAll, shareAll, this']
  have c1 : ev Φ C_moved_by_1 [sD (oTT (matO n f)), sI b, none, none] τ = .ok (.fr ((List.range n).map fun i => oT (vecO n (moveO f b i)))) [sD (oTT (matO n f)), sI b, none, none] τ := by
    refine comp_map (l := List.range n) (φ := fun i => oT (vecO n (f i))) (env1 := [sD (oTT (matO n f)), sI b, none, none]) (envs := fun i => [sD (oTT (matO n f)), sI b, none, sD (oT (vecO n (f i)))]) ?_ rfl (by simp; omega) (fun a _ => rfl) (fun a _ => rfl) rfl (fun a _ => rfl) fun i hi => ?_
    · simp [exs, ex, ev, evA, evT, evP, evO, evI, look_br, look_own, share_br, slotOf_br, setAll, shareAll]
      simp [matO]
    · have := c0 i
      have v : (List.range n).map (fun j => oD (moveO f b i j)) = (vecO n (moveO f b i)).map oD := by simp [vecO]
      rw [v] at this
      unfold K_moved_by_1
      refine ⟨.sh (.d (oT (vecO n (moveO f b i)))), ?_, rfl⟩
      generalize vecO n (moveO f b i) = Z at *
      simp [exs, ex, ev, evA, evT, evP, evO, evI, look_br, look_own, share_br, slotOf_br, setAll, shareAll, this]
  have fin : (List.range n).map (fun i => oT (vecO n (moveO f b i))) = (matO n (moveO f b)).map oT := by simp [matO]
  rw [fin] at c1
  generalize matO n (moveO f b) = Z at *
  generalize matO n f = F at *
  simp [exs, ex, ev, evA, evT, evP, evO, evI, look_br, look_own, share_br, slotOf_br, setAll, shareAll, Dv.run, A_moved_by, N_moved_by, c1]
/-- the rows of a run -/
def runO (n : Nat) (f : Nat → Nat → Option Int) (x : Nat → Option Int) : Nat → Nat → Option Int
  | 0 => x
  | m + 1 => fun i => dotO n (f i) (runO n f x m)
theorem iter_run (n : Nat) (f : Nat → Nat → Option Int) (x : Nat → Option Int) : ∀ m, iterO (matO n f) (vecO n x) m = vecO n (runO n f x m)
  | 0 => rfl
  | m + 1 => by
    rw [iterO, iter_run n f x m, image_mat]
    rfl
theorem run_any {n : Nat} {f : Nat → Nat → Option Int} (h : Ln (matO n f)) (x : Nat → Option Int) {m : Nat} (hm : m ≤ 60) (τ : Tp) : Φ "run_line" [.d (oTT (matO n f)), .d (oT (vecO n x)), .d (.int m)] τ = .ok (.d (.tuple ((List.range (m + 1)).map fun i => oT (vecO n (runO n f x i))))) τ := by
  rw [Φ_run_line]
  have c := line_ok h τ
  have r := range_it (n := m) (by omega)
  obtain ⟨p, e⟩ := run_loop (line := matO n f) (row := vecO n x) (by have := h.l2; omega) τ (sD (oT (vecO n x))) (sI m) m 0 ((List.range m).map fun (k : Nat) => PyData.int k) none (by simp) (by intro x hx; obtain ⟨i, _, rfl⟩ := List.mem_map.mp hx; exact ⟨_, rfl⟩) (by omega)
  rw [show (List.range (0 + 1)).map (fun i => oT (iterO (matO n f) (vecO n x) i)) = [oT (vecO n x)] from rfl] at e
  have it : (List.range (0 + m + 1)).map (fun i => oT (iterO (matO n f) (vecO n x) i)) = (List.range (m + 1)).map fun i => oT (vecO n (runO n f x i)) := by
    rw [Nat.zero_add]
    apply List.map_congr_left
    intro i _
    rw [iter_run]
  rw [it] at e
  have h2 : (((vecO n x).length : Int) = (matO n f).length) := by rw [vecO_len, matO_len]
  have hm' : (m : Int) ≤ 60 := by omega
  generalize (List.range (m + 1)).map (fun i => oT (vecO n (runO n f x i))) = z at *
  generalize (List.range m).map (fun (k : Nat) => PyData.int k) = L at *
  generalize vecO n x = X at *
  generalize matO n f = F at *
  simp [exs, ex, ev, evA, evT, evP, evO, evI, look_br, look_own, share_br, slotOf_br, setAll, shareAll, Dv.run, A_run_line, N_run_line, c, r, e, h2, hm']
end K42

set_option Elab.async false
set_option linter.all false
set_option maxRecDepth 100000
set_option maxHeartbeats 1000000
/-! K42g: joined lines, regimes. -/
namespace K42
open PySem PySem.Spec PyProof.Rows L2 Dv
open Fx (fr Sm)
/-! ### data compared -/
theorem eqvAll_map {α : Type} [DecidableEq α] {φ : α → D} (hφ : ∀ a b, PyData.eqv (φ a) (φ b) = decide (a = b)) : ∀ (l m : List α), PyData.eqvAll (l.map φ) (m.map φ) = decide (l = m)
  | [], [] => by simp [PyData.eqvAll]
  | [], _ :: _ => by simp [PyData.eqvAll]
  | _ :: _, [] => by simp [PyData.eqvAll]
  | a :: l, b :: m => by
    simp only [List.map_cons, PyData.eqvAll, hφ, eqvAll_map hφ l m]
    rw [Bool.eq_iff_iff]
    simp
theorem eqv_oD (a b : Option Int) : PyData.eqv (oD a) (oD b) = decide (a = b) := by
  cases a <;> cases b <;> simp [oD, PyData.eqv]
theorem eqv_oT (a b : List (Option Int)) : PyData.eqv (oT a) (oT b) = decide (a = b) := by
  simp only [PyData.eqv, eqvAll_map eqv_oD]
theorem eqv_oTT (a b : List (List (Option Int))) : PyData.eqv (oTT a) (oTT b) = decide (a = b) := by
  simp only [PyData.eqv, eqvAll_map eqv_oT]
theorem lay_oD (a : Option Int) : Lay 1 (oD a) := by cases a; exact lay_none; exact lay_int _
theorem lay_oT (a : List (Option Int)) : Lay 2 (oT a) := lay_tuple fun x hx => by
  obtain ⟨i, _, rfl⟩ := List.mem_map.mp hx
  exact lay_oD i
theorem lay_oTT (a : List (List (Option Int))) : Lay 3 (oTT a) := lay_tuple fun x hx => by
  obtain ⟨i, _, rfl⟩ := List.mem_map.mp hx
  exact lay_oT i
theorem cmp_oTT (a b : List (List (Option Int))) : cmpD .eq (oTT a) (oTT b) = some (decide (a = b)) := by
  simp only [cmpD, (lay_oTT a).shaped (by omega), (lay_oTT b).shaped (by omega), Bool.and_self, if_true, eqv_oTT]
theorem cmp_ne_oTT (a b : List (List (Option Int))) : cmpD .ne (oTT a) (oTT b) = some (!decide (a = b)) := by
  simp only [cmpD, (lay_oTT a).shaped (by omega), (lay_oTT b).shaped (by omega), Bool.and_self, if_true, eqv_oTT]
theorem matO_ext {n : Nat} {f g : Nat → Nat → Option Int} (h : ∀ i j, i < n → j < n → f i j = g i j) : matO n f = matO n g := by
  unfold matO vecO
  apply List.map_congr_left
  intro i hi
  apply List.map_congr_left
  intro j hj
  simp at hi hj
  exact h i j hi hj
theorem matO_inj {n : Nat} {f g : Nat → Nat → Option Int} (h : matO n f = matO n g) : ∀ i j, i < n → j < n → f i j = g i j := by
  intro i j hi hj
  unfold matO vecO at h
  have a := congrArg (fun l => (l[i]?.getD [])[j]?) h
  simp [hi, hj] at a
  exact a
/-! ### joined -/
abbrev bL (n : Nat) (p : Nat → Bool) : List D := (List.range n).map fun j => PyData.bool (p j)
abbrev bLL (n : Nat) (q : Nat → Nat → Bool) : List D := (List.range n).map fun i => PyData.list (bL n (q i))
theorem bLL_at {n : Nat} {q : Nat → Nat → Bool} {i : Nat} (h : i < n) : atI (bLL n q) (i : Int) = some (.list (bL n (q i))) := by
  rw [at_nat (by simpa using h)]; simp
theorem bL_at {n : Nat} {p : Nat → Bool} {i : Nat} (h : i < n) : atI (bL n p) (i : Int) = some (.bool (p i)) := by
  rw [at_nat (by simpa using h)]; simp
def farF (n : Nat) (e : Nat → Nat → Bool) : Nat → Nat → Nat → Bool
  | 0 => e
  | k + 1 => fun i j => farF n e k i j || (farF n e k i k && farF n e k k j)
def joinedF (n : Nat) (e : Nat → Nat → Bool) : Bool := (List.range n).all fun i => (List.range n).all fun j => farF n e n i j
theorem joinedM_ok {n : Nat} {f : Nat → Nat → Option Int} (h : Ln (matO n f)) (τ : Tp) : Φ "is_joined" [.d (oTT (matO n f))] τ = .ok (.d (.bool (joinedF n fun i j => (f i j).isSome))) τ := by
  rw [Φ_is_joined]
  have k := line_ok h τ
  have hn1 := h.l1
  have hn := h.l2
  rw [matO_len] at hn1 hn
  have r := range_it (n := n) (by omega)
  have c3 : ∀ i, i < n → ev Φ C_is_joined_3 [sD (oTT (matO n f)), sI n, none, none, sI (i : Nat), none, none] τ = .ok (.fr (bL n fun j => (f i j).isSome)) [sD (oTT (matO n f)), sI n, none, none, sI (i : Nat), none, none] τ := fun i hi => by
    refine comp_map (l := List.range n) (φ := fun (k : Nat) => PyData.int k) (env1 := [sD (oTT (matO n f)), sI n, none, none, sI (i : Nat), none, none]) (envs := fun (j : Nat) => [sD (oTT (matO n f)), sI n, none, sI (j : Nat), sI (i : Nat), none, none]) ?_ rfl (by simp; omega) (fun a _ => rfl) (fun a _ => rfl) rfl (fun a _ => rfl) fun j hj => ?_
    · generalize ((List.range n).map fun (k : Nat) => PyData.int k) = L at *
      simp [exs, ex, ev, evA, evT, evP, evO, evI, look_br, look_own, share_br, slotOf_br, setAll, shareAll, r]
    · simp at hj
      have x1 := mat_row (f := f) hi
      have x2 := vec_at (x := f i) hj
      unfold K_is_joined_3
      refine ⟨.sh (.d (.bool (f i j).isSome)), ?_, rfl⟩
      generalize vecO n (f i) = v at *
      generalize matO n f = F at *
      simp [exs, ex, ev, evA, evT, evP, evO, evI, look_br, look_own, share_br, slotOf_br, setAll, shareAll, x1, x2, isNone_oD]
  have c4 : ev Φ C_is_joined_4 [sD (oTT (matO n f)), sI n, none, none, none, none, none] τ = .ok (.fr (bLL n (farF n (fun i j => (f i j).isSome) 0))) [sD (oTT (matO n f)), sI n, none, none, none, none, none] τ := by
    refine comp_map (l := List.range n) (φ := fun (k : Nat) => PyData.int k) (env1 := [sD (oTT (matO n f)), sI n, none, none, none, none, none]) (envs := fun (i : Nat) => [sD (oTT (matO n f)), sI n, none, none, sI (i : Nat), none, none]) ?_ rfl (by simp; omega) (fun a _ => rfl) (fun a _ => rfl) rfl (fun a _ => rfl) fun i hi => ?_
    · generalize ((List.range n).map fun (k : Nat) => PyData.int k) = L at *
      simp [exs, ex, ev, evA, evT, evP, evO, evI, look_br, look_own, share_br, slotOf_br, setAll, shareAll, r]
    · simp at hi
      exact ⟨_, c3 i hi, rfl⟩
  generalize (fun i j => (f i j).isSome) = e at *
  have c1 : ∀ (q : Nat → Nat → Bool) (k i : Nat), k < n → i < n → ev Φ C_is_joined_1 [sD (oTT (matO n f)), sI n, sO (bLL n q), none, sI (i : Nat), sI (k : Nat), none] τ = .ok (.fr (bL n fun j => q i j || (q i k && q k j))) [sD (oTT (matO n f)), sI n, sO (bLL n q), none, sI (i : Nat), sI (k : Nat), none] τ := fun q k i hk hi => by
    refine comp_map (l := List.range n) (φ := fun (k : Nat) => PyData.int k) (env1 := [sD (oTT (matO n f)), sI n, sO (bLL n q), none, sI (i : Nat), sI (k : Nat), none]) (envs := fun (j : Nat) => [sD (oTT (matO n f)), sI n, sO (bLL n q), sI (j : Nat), sI (i : Nat), sI (k : Nat), none]) ?_ rfl (by simp; omega) (fun a _ => rfl) (fun a _ => rfl) rfl (fun a _ => rfl) fun j hj => ?_
    · generalize ((List.range n).map fun (k : Nat) => PyData.int k) = L at *
      simp [exs, ex, ev, evA, evT, evP, evO, evI, look_br, look_own, share_br, slotOf_br, setAll, shareAll, r]
    · simp at hj
      have x1 := bLL_at (q := q) hi
      have x2 := bLL_at (q := q) hk
      have y1 := bL_at (p := q i) hj
      have y2 := bL_at (p := q i) hk
      have y3 := bL_at (p := q k) hj
      unfold K_is_joined_1
      generalize bL n (q i) = L1 at *
      generalize bL n (q k) = L2 at *
      generalize bLL n q = L3 at *
      refine ⟨.sh (.d (.bool (q i j || (q i k && q k j)))), ?_, rfl⟩
      cases h1 : q i j with
      | true => simp [exs, ex, ev, evA, evT, evP, evO, evI, look_br, look_own, share_br, slotOf_br, setAll, shareAll, x1, x2, y1, y2, y3, h1]
      | false =>
        cases h2 : q i k with
        | true => simp [exs, ex, ev, evA, evT, evP, evO, evI, look_br, look_own, share_br, slotOf_br, setAll, shareAll, x1, x2, y1, y2, y3, h1, h2]
        | false => simp [exs, ex, ev, evA, evT, evP, evO, evI, look_br, look_own, share_br, slotOf_br, setAll, shareAll, x1, x2, y1, y2, y3, h1, h2]
  have c2 : ∀ (q : Nat → Nat → Bool) (k : Nat), k < n → ev Φ C_is_joined_2 [sD (oTT (matO n f)), sI n, sO (bLL n q), none, none, sI (k : Nat), none] τ = .ok (.fr (bLL n fun i j => q i j || (q i k && q k j))) [sD (oTT (matO n f)), sI n, sO (bLL n q), none, none, sI (k : Nat), none] τ := fun q k hk => by
    refine comp_map (l := List.range n) (φ := fun (k : Nat) => PyData.int k) (env1 := [sD (oTT (matO n f)), sI n, sO (bLL n q), none, none, sI (k : Nat), none]) (envs := fun (i : Nat) => [sD (oTT (matO n f)), sI n, sO (bLL n q), none, sI (i : Nat), sI (k : Nat), none]) ?_ rfl (by simp; omega) (fun a _ => rfl) (fun a _ => rfl) rfl (fun a _ => rfl) fun i hi => ?_
    · generalize ((List.range n).map fun (k : Nat) => PyData.int k) = L at *
      simp [exs, ex, ev, evA, evT, evP, evO, evI, look_br, look_own, share_br, slotOf_br, setAll, shareAll, r]
    · simp at hi
      exact ⟨_, c1 q k i hk hi, rfl⟩
  let P : Nat → Dv.Env → Tp → Prop := fun k env t => t = τ ∧ ∃ o, env = [sD (oTT (matO n f)), sI n, sO (bLL n (farF n e k)), none, none, o, none]
  obtain ⟨e1, t1, h1, h2, o, h3⟩ := for_P (φ := fun (k : Nat) => PyData.int k) (f := exs Φ B_is_joined_0) (tg := .name 5) P (l := List.range n) (env := [sD (oTT (matO n f)), sI n, sO (bLL n (farF n e 0)), none, none, none, none]) (τ := τ) ⟨rfl, none, rfl⟩ (fun i hi env t hp => by
    obtain ⟨rfl, o, rfl⟩ := hp
    have hi' : i < n := by simpa using hi
    refine ⟨_, rfl, [sD (oTT (matO n f)), sI n, sO (bLL n (farF n e (i + 1))), none, none, sI (i : Nat), none], t, ?_, rfl, sI (i : Nat), rfl⟩
    have := c2 (farF n e i) i hi'
    have ef : bLL n (farF n e (i + 1)) = bLL n fun a b => farF n e i a b || (farF n e i a i && farF n e i i b) := rfl
    rw [ef]
    generalize (bLL n fun a b => farF n e i a b || (farF n e i a i && farF n e i i b)) = Z at *
    generalize bLL n (farF n e i) = Y at *
    simp only [List.getElem_range, List.set]
    unfold B_is_joined_0
    simp [exs, ex, ev, evA, evT, evP, evO, evI, look_br, look_own, share_br, slotOf_br, setAll, shareAll, this])
  subst h2 h3
  rw [List.length_range] at h1
  have ca : ev Φ C_is_joined_0 [sD (oTT (matO n f)), sI n, sO (bLL n (farF n e n)), none, none, o, none] t1 = .ok (.fr ((List.range n).map fun i => PyData.bool ((List.range n).all fun j => farF n e n i j))) [sD (oTT (matO n f)), sI n, sD (.list (bLL n (farF n e n))), none, none, o, none] t1 := by
    refine comp_map (l := List.range n) (φ := fun i => PyData.list (bL n (farF n e n i))) (env1 := [sD (oTT (matO n f)), sI n, sD (.list (bLL n (farF n e n))), none, none, o, none]) (envs := fun i => [sD (oTT (matO n f)), sI n, sD (.list (bLL n (farF n e n))), none, none, o, sD (.list (bL n (farF n e n i)))]) ?_ rfl (by simp; omega) (fun a _ => rfl) (fun a _ => rfl) rfl (fun a _ => rfl) fun i hi => ?_
    · simp [exs, ex, ev, evA, evT, evP, evO, evI, look_br, look_own, share_br, slotOf_br, setAll, shareAll, share_own]
    · have a := rb_all (bL n (farF n e n i)) (boolsD_map2 (farF n e n i) (List.range n))
      unfold K_is_joined_0
      refine ⟨.sh (.d (.bool ((List.range n).all fun j => farF n e n i j))), ?_, rfl⟩
      have ea : (List.map (farF n e n i) (List.range n)).all id = (List.range n).all fun j => farF n e n i j := by rw [List.all_map]; rfl
      rw [ea] at a
      generalize bL n (farF n e n i) = Z at *
      simp [exs, ex, ev, evA, evT, evP, evO, evI, look_br, look_own, share_br, slotOf_br, setAll, shareAll, a]
  have al := rb_all ((List.range n).map fun i => PyData.bool ((List.range n).all fun j => farF n e n i j)) (boolsD_map2 ..)
  have eal : (List.map (fun i => (List.range n).all fun j => farF n e n i j) (List.range n)).all id = joinedF n e := by
    rw [List.all_map]; rfl
  rw [eal] at al
  generalize ((List.range n).map fun i => PyData.bool ((List.range n).all fun j => farF n e n i j)) = Z at *
  generalize bLL n (farF n e n) = Y at *
  generalize bLL n (farF n e 0) = Y0 at *
  have hl : (matO n f).length = n := matO_len n f
  generalize matO n f = F at *
  generalize ((List.range n).map fun (k : Nat) => PyData.int k) = L at *
  simp [exs, ex, ev, evA, evT, evP, evO, evI, look_br, look_own, share_br, slotOf_br, setAll, shareAll, Dv.run, A_is_joined, N_is_joined, k, hl, c4, r, h1, ca, al]
end K42

set_option Elab.async false
set_option linter.all false
set_option maxRecDepth 100000
set_option maxHeartbeats 1000000
/-! K42h2: regimes. -/
namespace K42
open PySem PySem.Spec PyProof.Rows L2 Dv
open Fx (fr Sm)
theorem ptimes_ok {k m : Nat} {p q : Rat} (h1 : Sm k p) (h2 : Sm m q) (hk : k + m ≤ 4000) (τ : Tp) : Φ "times" [.d (fr p), .d (fr q)] τ = .ok (.d (fr (p * q))) τ := by
  rw [Φ_times]; exact Fx.mul_run mk_share h1 h2 hk τ
/-- whether the power m is the one r before it, moved by r times the rate -/
def tst (n : Nat) (f : Nat → Nat → Option Int) (B : Rat) (m r : Nat) : Bool := decide ((B * ((r : Int) : Rat)).den = 1) && decide (matO n (moveO (powO n f (m - r)) (B * ((r : Int) : Rat)).num) = matO n (powO n f m))
def regF (n : Nat) (f : Nat → Nat → Option Int) (B : Rat) : Option (Nat × Nat) := (List.range' 1 60).findSome? fun m => ((List.range' 1 m).find? (tst n f B m)).map fun r => (m, r)
def regD (B : Rat) (m r : Nat) : D := .tuple [.int ((m - r : Nat) : Int), .int r, .int (B * ((r : Int) : Rat)).num]
abbrev pws (n : Nat) (f : Nat → Nat → Option Int) (m : Nat) : List D := (List.range (m + 1)).map fun k => oTT (matO n (powO n f k))
theorem pws_at {n : Nat} {f : Nat → Nat → Option Int} {m k : Nat} (h : k ≤ m) : atI (pws n f m) (k : Int) = some (oTT (matO n (powO n f k))) := by
  rw [at_nat (by simp; omega)]; simp
section
variable {n : Nat} {f : Nat → Nat → Option Int} (hn : n ≤ 6) (hn1 : 0 < n) {B : Rat} (hB : Sm 10 B)
include hn hB
theorem reg_in (τ : Tp) (m : Nat) (hm : m ≤ 60) : ∀ (l : List Nat) (o4 o5 : Option Sl), (∀ r ∈ l, 1 ≤ r ∧ r ≤ m) → ∃ p4 p5,
    forLoop (exs Φ B_regime_0) (.name 4) (l.map fun (r : Nat) => PyData.int r) [sD (oTT (matO n f)), sD (fr B), sO (pws n f m), sI m, o4, o5] τ = match l.find? (tst n f B m) with
      | some r => .ret (.d (regD B m r)) τ
      | none => .nx [sD (oTT (matO n f)), sD (fr B), sO (pws n f m), sI m, p4, p5] τ
  | [], o4, o5, _ => ⟨o4, o5, rfl⟩
  | r :: l, o4, o5, hl => by
    have hr := hl r (by simp)
    obtain ⟨p4, p5, e⟩ := reg_in τ m hm l (sI r) (sD (fr (B * ((r : Int) : Rat)))) fun x hx => hl x (by simp [hx])
    refine ⟨p4, p5, ?_⟩
    have hb : exs Φ B_regime_0 [sD (oTT (matO n f)), sD (fr B), sO (pws n f m), sI m, sI r, o5] τ = if tst n f B m r then .ret (.d (regD B m r)) τ else .nx [sD (oTT (matO n f)), sD (fr B), sO (pws n f m), sI m, sI r, sD (fr (B * ((r : Int) : Rat)))] τ := by
      have t := ptimes_ok hB (Sm.int (k := 8) (i := r) (by omega) (by decide)) (by omega) τ
      have mv := moved_ok (n := n) (by omega) (powO n f (m - r)) (B * ((r : Int) : Rat)).num τ
      have a1 := pws_at (n := n) (f := f) (m := m) (k := m - r) (by omega)
      have a2 := pws_at (n := n) (f := f) (m := m) (k := m) (by omega)
      have es : (m : Int) - r = ((m - r : Nat) : Int) := by omega
      have q0 : idxD (fr (B * ((r : Int) : Rat))) (.int 0) = some (.int (B * ((r : Int) : Rat)).num) := rfl
      have q1 : idxD (fr (B * ((r : Int) : Rat))) (.int 1) = some (.int ((B * ((r : Int) : Rat)).den : Nat)) := rfl
      rw [Fx.fr_int r |>.symm] at t
      unfold tst regD B_regime_0
      have ce := cmp_oTT (matO n (moveO (powO n f (m - r)) (B * ((r : Int) : Rat)).num)) (matO n (powO n f m))
      generalize B * ((r : Int) : Rat) = T at *
      generalize matO n (moveO (powO n f (m - r)) T.num) = M1 at *
      generalize matO n (powO n f m) = M2 at *
      generalize matO n (powO n f (m - r)) = M3 at *
      generalize pws n f m = PW at *
      generalize matO n f = F at *
      generalize hd : T.den = d at *
      by_cases c : d = 1
      · have c' : (d : Int) = 1 := by omega
        by_cases c2 : M1 = M2
        · subst c2
          simp [exs, ex, ev, evA, evT, evP, evO, evI, look_br, look_own, share_br, slotOf_br, setAll, shareAll, t, q0, q1, c, c', es, a1, a2, mv, ce]
        · simp [exs, ex, ev, evA, evT, evP, evO, evI, look_br, look_own, share_br, slotOf_br, setAll, shareAll, t, q0, q1, c, c', es, a1, a2, mv, ce, c2]
      · have c' : ¬ (d : Int) = 1 := by omega
        simp [exs, ex, ev, evA, evT, evP, evO, evI, look_br, look_own, share_br, slotOf_br, setAll, shareAll, t, q0, q1, c, c']
    simp only [List.map_cons, forLoop, setTg, List.set]
    rw [hb]
    cases ht : tst n f B m r with
    | true => simp [List.find?, ht]
    | false => simp [List.find?, ht, e]
include hn1
theorem reg_out (τ : Tp) : ∀ (k m : Nat) (o3 o4 o5 : Option Sl), m + k ≤ 60 → ∃ q2 p3 p4 p5,
    forLoop (exs Φ B_regime_1) (.name 3) ((List.range' (m + 1) k).map fun (r : Nat) => PyData.int r) [sD (oTT (matO n f)), sD (fr B), sO (pws n f m), o3, o4, o5] τ = match (List.range' (m + 1) k).findSome? fun m => ((List.range' 1 m).find? (tst n f B m)).map fun r => (m, r) with
      | some p => .ret (.d (regD B p.1 p.2)) τ
      | none => .nx [sD (oTT (matO n f)), sD (fr B), q2, p3, p4, p5] τ
  | 0, m, o3, o4, o5, _ => ⟨_, o3, o4, o5, rfl⟩
  | k + 1, m, o3, o4, o5, hk => by
    obtain ⟨p4, p5, e⟩ := reg_in (f := f) hn hB τ (m + 1) (by omega) (List.range' 1 (m + 1)) o4 o5 fun r hr => by
      rw [List.mem_range'_1] at hr
      omega
    obtain ⟨q2, p3, q4, q5, e2⟩ := reg_out τ k (m + 1) (sI (m + 1 : Nat)) p4 p5 (by omega)
    refine ⟨q2, p3, q4, q5, ?_⟩
    have r : itemsD .range2 [.int 1, .int ((m + 1 : Nat) + 1)] = some ((List.range' 1 (m + 1)).map fun (r : Nat) => PyData.int r) := by
      rw [it_range2 _ _ (by rw [small62_of _ (by omega) (by omega), small62_of _ (by omega) (by omega)]; rfl)]
      congr 1
      unfold rangeD
      rw [show (((m + 1 : Nat) : Int) + 1 - 1).toNat = m + 1 by omega, List.range'_eq_map_range, List.map_map]
      apply List.map_congr_left
      intro i _
      simp
    have pr := product_ok (n := n) (by omega) hn1 (powO n f m) f τ
    have a1 : atI (pws n f m) (-1) = some (oTT (matO n (powO n f m))) := by
      rw [at_last (by simp)]
      simp
    have pl : (pws n f m).length ≤ 100000 := by simp; omega
    have pn : pws n f (m + 1) = pws n f m ++ [oTT (matO n (mulO n (powO n f m) f))] := by
      unfold pws
      rw [List.range_succ (n := m + 1), List.map_append]
      rfl
    have hb : exs Φ B_regime_1 [sD (oTT (matO n f)), sD (fr B), sO (pws n f m), sI (m + 1 : Nat), o4, o5] τ = match (List.range' 1 (m + 1)).find? (tst n f B (m + 1)) with
      | some r => .ret (.d (regD B (m + 1) r)) τ
      | none => .nx [sD (oTT (matO n f)), sD (fr B), sO (pws n f (m + 1)), sI (m + 1 : Nat), p4, p5] τ := by
      rw [pn] at e ⊢
      generalize matO n (mulO n (powO n f m) f) = M at *
      generalize matO n (powO n f m) = M0 at *
      generalize pws n f m = PW at *
      generalize matO n f = F at *
      generalize (List.range' 1 (m + 1)).map (fun (r : Nat) => PyData.int r) = L at *
      generalize (List.range' 1 (m + 1)).find? (tst n f B (m + 1)) = Z at *
      generalize ((m + 1 : Nat) : Int) = mm at *
      unfold B_regime_1
      cases Z with
      | none =>
        simp only at e
        simp [exs, ex, ev, evA, evT, evP, evO, evI, look_br, look_own, share_br, slotOf_br, setAll, shareAll, pr, a1, pl, r, e]
      | some z =>
        simp only at e
        simp [exs, ex, ev, evA, evT, evP, evO, evI, look_br, look_own, share_br, slotOf_br, setAll, shareAll, pr, a1, pl, r, e]
    rw [show List.range' (m + 1) (k + 1) = (m + 1) :: List.range' (m + 1 + 1) k from List.range'_succ]
    simp only [List.map_cons, forLoop, setTg, List.set, List.findSome?_cons]
    rw [hb]
    cases hz : (List.range' 1 (m + 1)).find? (tst n f B (m + 1)) with
    | some z => simp
    | none =>
      simp only [Option.map_none]
      exact e2
end
theorem regime_ok {n : Nat} {f : Nat → Nat → Option Int} (h : Ln (matO n f)) (hj : joinedF n (fun i j => (f i j).isSome) = true) {B : Rat} (hB : Sm 10 B) (hr : ∀ τ, Φ "rate" [.d (oTT (matO n f))] τ = .ok (.d (fr B)) τ) (τ : Tp) : Φ "regime" [.d (oTT (matO n f))] τ = match regF n f B with
    | some p => .ok (.d (regD B p.1 p.2)) τ
    | none => .err "InvalidLine" τ := by
  rw [Φ_regime]
  have hn1 := h.l1
  have hn := h.l2
  rw [matO_len] at hn1 hn
  have j := joinedM_ok h τ
  rw [hj] at j
  have rt := hr τ
  have p0 := power_ok h (m := 0) (by omega) τ
  obtain ⟨q2, p3, p4, p5, e⟩ := reg_out (f := f) hn hn1 hB τ 60 0 none none none (by omega)
  have r : itemsD .range2 [.int 1, .int 61] = some ((List.range' (0 + 1) 60).map fun (r : Nat) => PyData.int r) := by
    rw [it_range2 _ _ (by decide)]
    rfl
  have p0' : Φ "line_power" [.d (oTT (matO n f)), .d (.int 0)] τ = .ok (.d (oTT (matO n (powO n f 0)))) τ := p0
  have pe : pws n f 0 = [oTT (matO n (powO n f 0))] := rfl
  rw [pe] at e
  unfold regF
  generalize (List.range' (0 + 1) 60).map (fun (r : Nat) => PyData.int r) = L at *
  have e' : forLoop (exs Φ B_regime_1) (.name 3) L [sD (oTT (matO n f)), sD (fr B), sO [oTT (matO n (powO n f 0))], none, none, none] τ = match (List.range' 1 60).findSome? fun m => ((List.range' 1 m).find? (tst n f B m)).map fun r => (m, r) with
      | some p => .ret (.d (regD B p.1 p.2)) τ
      | none => .nx [sD (oTT (matO n f)), sD (fr B), q2, p3, p4, p5] τ := e
  generalize (List.range' 1 60).findSome? (fun m => ((List.range' 1 m).find? (tst n f B m)).map fun r => (m, r)) = Z at *
  generalize matO n (powO n f 0) = Y at *
  generalize matO n f = F at *
  cases Z with
  | none =>
    simp only at e'
    simp [exs, ex, ev, evA, evT, evP, evO, evI, look_br, look_own, share_br, slotOf_br, setAll, shareAll, Dv.run, A_regime, N_regime, j, rt, p0', r, e']
  | some z =>
    simp only at e'
    simp [exs, ex, ev, evA, evT, evP, evO, evI, look_br, look_own, share_br, slotOf_br, setAll, shareAll, Dv.run, A_regime, N_regime, j, rt, p0', r, e']
theorem regime_no {n : Nat} {f : Nat → Nat → Option Int} (h : Ln (matO n f)) (hj : joinedF n (fun i j => (f i j).isSome) = false) (τ : Tp) : Φ "regime" [.d (oTT (matO n f))] τ = .err "InvalidLine" τ := by
  rw [Φ_regime]
  have j := joinedM_ok h τ
  rw [hj] at j
  generalize matO n f = F at *
  simp [exs, ex, ev, evA, evT, evP, evO, evI, look_br, look_own, share_br, slotOf_br, setAll, shareAll, Dv.run, A_regime, N_regime, j]
end K42

set_option Elab.async false
set_option linter.all false
set_option maxRecDepth 100000
set_option maxHeartbeats 1000000
/-! K42i: papers. -/
namespace K42
open PySem PySem.Spec PyProof.Rows L2 Dv
open Fx (fr Sm)
/-- a row of fractions -/
def qL (n : Nat) (q : Nat → Rat) : List D := (List.range n).map fun i => fr (q i)
abbrev qT (n : Nat) (q : Nat → Rat) : D := .tuple (qL n q)
theorem qT_at {n : Nat} {q : Nat → Rat} {i : Nat} (h : i < n) : atI (qL n q) (i : Int) = some (fr (q i)) := by
  rw [at_nat (by simpa [qL] using h)]; simp [qL]
theorem fr_at0 (p : Rat) : idxD (fr p) (.int 0) = some (.int p.num) := rfl
theorem fr_at1 (p : Rat) : idxD (fr p) (.int 1) = some (.int (p.den : Nat)) := rfl
/-- the gap is the fraction that is meant -/
theorem gap_eq (w : Int) (q B : Rat) : Rat.divInt ((w * (q.den : Int) + q.num) * (B.den : Int) - B.num * (q.den : Int)) ((q.den : Int) * (B.den : Int)) = (w : Rat) + q - B := by
  have hq : ((q.den : Int) : Rat) ≠ 0 := by
    intro e
    have : (q.den : Int) = 0 := by exact_mod_cast e
    have := q.den_nz
    omega
  have hB : ((B.den : Int) : Rat) ≠ 0 := by
    intro e
    have : (B.den : Int) = 0 := by exact_mod_cast e
    have := B.den_nz
    omega
  have eq : q = (q.num : Rat) / ((q.den : Int) : Rat) := by
    rw [← Rat.divInt_eq_div, Rat.num_divInt_den]
  have eB : B = (B.num : Rat) / ((B.den : Int) : Rat) := by
    rw [← Rat.divInt_eq_div, Rat.num_divInt_den]
  rw [Rat.divInt_eq_div]
  conv => rhs; rw [eq, eB]
  simp only [Rat.intCast_sub, Rat.intCast_add, Rat.intCast_mul]
  generalize (q.num : Rat) = a at *
  generalize ((q.den : Int) : Rat) = b at *
  generalize (B.num : Rat) = c at *
  generalize ((B.den : Int) : Rat) = d at *
  generalize (w : Rat) = e at *
  grind
section
variable {n : Nat} {f : Nat → Nat → Option Int} (h : Ln (matO n f)) {B : Rat} {q : Nat → Rat} (hB : Sm 10 B) (hq : ∀ i, i < n → Sm 40 (q i))
include h hB hq
theorem tk_in {c : D} (τ : Tp) {i : Nat} (hi : i < n) (hg : ∀ j w, j < n → f i j = some w → (w : Rat) + q j - B ≤ q i) (p2 : Option Sl) (o6 o7 o8 : Option Sl) : ∀ (l : List Nat) (o10 o11 : Option Sl), (∀ j ∈ l, j < n) → ∃ p10 p11,
    forLoop (exs Φ B_takes_rate_0) (.name 10) (l.map fun (j : Nat) => PyData.int j) [sD (oTT (matO n f)), sD (fr B), p2, sD c, sD (qT n q), sI n, o6, o7, o8, sI i, o10, o11] τ = .nx [sD (oTT (matO n f)), sD (fr B), p2, sD c, sD (qT n q), sI n, o6, o7, o8, sI i, p10, p11] τ
  | [], o10, o11, _ => ⟨o10, o11, rfl⟩
  | j :: l, o10, o11, hl => by
    have hj := hl j (by simp)
    have go : ∀ o, exs Φ B_takes_rate_0 [sD (oTT (matO n f)), sD (fr B), p2, sD c, sD (qT n q), sI n, o6, o7, o8, sI i, sI j, o11] τ = .nx [sD (oTT (matO n f)), sD (fr B), p2, sD c, sD (qT n q), sI n, o6, o7, o8, sI i, sI j, o] τ → ∃ p10 p11,
        forLoop (exs Φ B_takes_rate_0) (.name 10) ((j :: l).map fun (j : Nat) => PyData.int j) [sD (oTT (matO n f)), sD (fr B), p2, sD c, sD (qT n q), sI n, o6, o7, o8, sI i, o10, o11] τ = .nx [sD (oTT (matO n f)), sD (fr B), p2, sD c, sD (qT n q), sI n, o6, o7, o8, sI i, p10, p11] τ := fun o ho => by
      obtain ⟨p10, p11, e⟩ := tk_in τ hi hg p2 o6 o7 o8 l (sI j) o fun x hx => hl x (by simp [hx])
      refine ⟨p10, p11, ?_⟩
      simp only [List.map_cons, forLoop, setTg, List.set]
      rw [ho]
      exact e
    have x1 := mat_row (f := f) hi
    have x2 := vec_at (x := f i) hj
    have hlo : ∀ w, f i j = some w → w.natAbs ≤ 99 := fun w hw => by
      have hm : vecO n (f i) ∈ matO n f := List.mem_map.mpr ⟨i, by simpa using hi, rfl⟩
      have := h.lo _ hm w (List.mem_map.mpr ⟨j, by simpa using hj, hw⟩)
      omega
    cases hf : f i j with
    | none =>
      refine go o11 ?_
      rw [hf] at x2
      generalize vecO n (f i) = v at *
      generalize matO n f = F at *
      unfold B_takes_rate_0
      simp [exs, ex, ev, evA, evT, evP, evO, evI, look_br, look_own, share_br, slotOf_br, setAll, shareAll, x1, x2, isNone_oD]
    | some w =>
      rw [hf] at x2
      have hw := hlo w hf
      have y1 := qT_at (q := q) hj
      have y2 := qT_at (q := q) hi
      have sq := hq j hj
      have b1 : bitsOk w ((q j).den : Nat) = true := Fx.bits_k (k := 8) (m := 40) (j := ((q j).den : Nat)) (by omega) (by simpa using sq.2) (by omega) (by omega)
      have nA : ((q j).den : Int).natAbs < 2 ^ 40 := by simpa using sq.2
      have nB : (q j).num.natAbs < 2 ^ 40 := sq.1
      have nd : ((B.den : Nat) : Int).natAbs < 2 ^ 10 := by simpa using hB.2
      have n1 : (w * ((q j).den : Int) + (q j).num).natAbs < 2 ^ 60 := by
        have m1 : (w * ((q j).den : Int)).natAbs < 2 ^ (8 + 40) := by rw [Int.natAbs_mul]; exact Fx.mul_lt (by omega) nA
        have : (2 : Nat) ^ (8 + 40) = 281474976710656 := by decide
        have : (2 : Nat) ^ 40 = 1099511627776 := by decide
        have : (2 : Nat) ^ 60 = 1152921504606846976 := by decide
        omega
      have b2 : bitsOk (w * ((q j).den : Nat) + (q j).num) (B.den : Nat) = true := Fx.bits_k (k := 60) (m := 10) (j := (B.den : Nat)) n1 nd (by omega) (by omega)
      have b3 : bitsOk B.num ((q j).den : Nat) = true := Fx.bits_k (k := 10) (m := 40) (j := ((q j).den : Nat)) hB.1 nA (by omega) (by omega)
      have b4 : bitsOk ((q j).den : Nat) (B.den : Nat) = true := Fx.bits_k (k := 40) (m := 10) (i := ((q j).den : Nat)) (j := (B.den : Nat)) nA nd (by omega) (by omega)
      have sh := mk_share ((w * ((q j).den : Int) + (q j).num) * (B.den : Int) - B.num * ((q j).den : Int)) (((q j).den : Int) * (B.den : Int)) τ (Fx.dd_ne (q j) B) (Fx.sm_of (Fx.dd_lt sq hB) (by omega))
      rw [gap_eq] at sh
      have sg : Sm 100 ((w : Rat) + q j - B) := (((Sm.int (k := 8) (i := w) (by omega) (by decide)).add sq).sub hB).mono (by omega)
      have le := less_ok (hq i hi) sg (by omega) τ
      rw [decide_eq_false (Rat.not_lt.mpr (hg j w hj hf))] at le
      refine go (sD (fr ((w : Rat) + q j - B))) ?_
      rw [show qT n q = .tuple (qL n q) from rfl]
      clear go
      generalize (w : Rat) + q j - B = gp at *
      generalize q j = qj at *
      generalize q i = qi at *
      generalize qL n q = Q at *
      generalize vecO n (f i) = v at *
      generalize matO n f = F at *
      unfold B_takes_rate_0
      simp [exs, ex, ev, evA, evT, evP, evO, evI, look_br, look_own, share_br, slotOf_br, setAll, shareAll, x1, x2, oD, y1, y2, fr_at0, fr_at1, bin_mul, b1, b2, b3, b4, sh, le]
/-- the paper is taken -/
theorem takes_ok {c : List Nat} (hc : Circ (edge (matO n f)) n c) (hm : meanF (wt (matO n f)) c = B) (hg : ∀ i j w, i < n → j < n → f i j = some w → (w : Rat) + q j - B ≤ q i) (τ : Tp) :
    Φ "takes_rate" [.d (oTT (matO n f)), .d (fr B), .d (.tuple [nT c, qT n q])] τ = .ok (.d (.bool true)) τ := by
  rw [Φ_takes_rate]
  have k := line_ok h τ
  have hl : (matO n f).length = n := matO_len n f
  have hn := h.l2
  rw [hl] at hn
  have hc' : Circ (edge (matO n f)) (matO n f).length c := by rw [hl]; exact hc
  have cl := circ_len h hc'
  have mn := mean_circ h hc' τ
  rw [hm] at mn
  obtain ⟨s, hw, hcl⟩ := hc
  have ql : (qL n q).length = n := by simp [qL]
  let e0 : Dv.Env := [sD (oTT (matO n f)), sD (fr B), sD (.tuple [nT c, qT n q]), sD (nT c), sD (qT n q), sI n, none, none, none, none, none, none]
  have c1 : ev Φ C_takes_rate_1 e0 τ = .ok (.fr (c.map fun _ => PyData.bool true)) e0 τ := by
    refine comp_map (l := c) (φ := fun (k : Nat) => PyData.int k) (env1 := e0) (envs := fun (k : Nat) => [sD (oTT (matO n f)), sD (fr B), sD (.tuple [nT c, qT n q]), sD (nT c), sD (qT n q), sI n, sI (k : Nat), none, none, none, none, none]) ?_ rfl (by omega) (fun a _ => rfl) (fun a _ => rfl) rfl (fun a _ => rfl) fun a ha => ?_
    · simp only [e0]
      generalize qL n q = Q
      generalize matO n f = F
      simp [exs, ex, ev, evA, evT, evP, evO, evI, look_br, look_own, share_br, slotOf_br, setAll, shareAll]
    · have := (hw.lt a ha).2
      have h1 : (a : Int) < n := by omega
      have h0 : (0 : Int) ≤ a := by omega
      unfold K_takes_rate_1
      refine ⟨.sh (.d (.bool true)), ?_, rfl⟩
      generalize qL n q = Q
      generalize matO n f = F
      simp [exs, ex, ev, evA, evT, evP, evO, evI, look_br, look_own, share_br, slotOf_br, setAll, shareAll, h0, h1]
  have c0 : ev Φ C_takes_rate_0 e0 τ = .ok (.fr ((steps c).map fun _ => PyData.bool false)) e0 τ := by
    refine comp_map (l := steps c) (φ := fun p => .tuple [.int (p.1 : Nat), .int (p.2 : Nat)]) (env1 := e0) (envs := fun p => [sD (oTT (matO n f)), sD (fr B), sD (.tuple [nT c, qT n q]), sD (nT c), sD (qT n q), sI n, none, sI (p.1 : Nat), sI (p.2 : Nat), none, none, none]) ?_ rfl (by rw [steps_len]; omega) (fun a _ => rfl) (fun a _ => rfl) rfl (fun a _ => rfl) fun p hp => ?_
    · have c1 : Dv.cutD (nI c) (some 1) none = nI c.tail := by rw [cut_tail, ← List.map_tail]
      have c2 : Dv.cutD (nI c) none (some 1) = nI (c.take 1) := by
        have := cut_to (nI c) 1
        rw [show ((1 : Nat) : Int) = 1 from rfl] at this
        rw [this]
        simp [nI, List.map_take]
      have c3 : (nI c.tail).length + (nI (c.take 1)).length ≤ 100000 := by simp; omega
      have c4 : zipD (nI c) (nI c.tail ++ nI (c.take 1)) = (steps c).map fun p => PyData.tuple [.int (p.1 : Nat), .int (p.2 : Nat)] := by
        rw [show nI c.tail ++ nI (c.take 1) = nI (c.tail ++ c.take 1) by rw [nI, nI, nI, List.map_append], zipD_map]
        rfl
      have c5 := add_tt _ _ c3
      simp only [e0]
      generalize qL n q = Q
      generalize matO n f = F
      generalize nI c.tail = T1 at *
      generalize nI (c.take 1) = T2 at *
      generalize (steps c).map (fun p => PyData.tuple [.int (p.1 : Nat), .int (p.2 : Nat)]) = Z at *
      simp [exs, ex, ev, evA, evT, evP, evO, evI, look_br, look_own, share_br, slotOf_br, setAll, shareAll, c1, c2, c5, c4]
    · obtain ⟨e1, e2, e3⟩ := step_edge hc' p hp
      obtain ⟨row, x1, x2, _⟩ := wt_at h e2 e3 e1
      unfold K_takes_rate_0
      refine ⟨.sh (.d (.bool false)), ?_, rfl⟩
      generalize qL n q = Q
      generalize matO n f = F at *
      simp [exs, ex, ev, evA, evT, evP, evO, evI, look_br, look_own, share_br, slotOf_br, setAll, shareAll, x1, x2]
  have b1 := rb_all (c.map fun _ => PyData.bool true) (boolsD_map2 (fun _ => true) c)
  rw [show (c.map fun _ => true).all id = true by simp] at b1
  have b0 := rb_any ((steps c).map fun _ => PyData.bool false) (boolsD_map2 (fun _ => false) (steps c))
  rw [show ((steps c).map fun _ => false).any id = false by simp] at b0
  have ls : prim1 .lenSet (nT c) = some (.sh (.d (.int c.length))) := by
    have hnd : (c.map fun (k : Nat) => (k : Int)).Nodup := by
      rw [List.nodup_iff_pairwise_ne, List.pairwise_map]
      exact hw.nd.imp fun {a b} hab => by omega
    have hi : intsD (nI c) = some (c.map fun (k : Nat) => (k : Int)) := intsD_map2 ..
    show (match intsD (nI c) with
      | some ns => if decide ns.Nodup && decide (ns.length < 64) then some (Rv.sh (.d (.int ns.length))) else none
      | none => none) = _
    rw [hi]
    simp [hnd]
    omega
  have r := range_it (n := n) (by omega)
  have out : ∀ (l : List Nat) (o9 o10 o11 : Option Sl), (∀ i ∈ l, i < n) → ∃ p9 p10 p11, forLoop (exs Φ B_takes_rate_1) (.name 9) (l.map fun (i : Nat) => PyData.int i) [sD (oTT (matO n f)), sD (fr B), sD (.tuple [nT c, qT n q]), sD (nT c), sD (qT n q), sI n, none, none, none, o9, o10, o11] τ
      = .nx [sD (oTT (matO n f)), sD (fr B), sD (.tuple [nT c, qT n q]), sD (nT c), sD (qT n q), sI n, none, none, none, p9, p10, p11] τ := by
    intro l
    induction l with
    | nil => exact fun o9 o10 o11 _ => ⟨o9, o10, o11, rfl⟩
    | cons i l ih =>
      intro o9 o10 o11 hi
      obtain ⟨p10, p11, e⟩ := tk_in h hB hq (c := nT c) τ (hi i (by simp)) (fun j w hj hw => hg i j w (hi i (by simp)) hj hw) (sD (.tuple [nT c, qT n q])) none none none (List.range n) o10 o11 (fun j hj => by simpa using hj)
      obtain ⟨q9, q10, q11, e2⟩ := ih (sI i) p10 p11 fun x hx => hi x (by simp [hx])
      refine ⟨q9, q10, q11, ?_⟩
      have hb : exs Φ B_takes_rate_1 [sD (oTT (matO n f)), sD (fr B), sD (.tuple [nT c, qT n q]), sD (nT c), sD (qT n q), sI n, none, none, none, sI i, o10, o11] τ = .nx [sD (oTT (matO n f)), sD (fr B), sD (.tuple [nT c, qT n q]), sD (nT c), sD (qT n q), sI n, none, none, none, sI i, p10, p11] τ := by
        generalize (List.range n).map (fun (j : Nat) => PyData.int j) = L at *
        unfold B_takes_rate_1
        simp [exs, ex, ev, evA, evT, evP, evO, evI, look_br, look_own, share_br, slotOf_br, setAll, shareAll, r, e]
      simp only [List.map_cons, forLoop, setTg, List.set]
      rw [hb]
      exact e2
  obtain ⟨p9, p10, p11, eo⟩ := out (List.range n) none none none (fun j hj => by simpa using hj)
  have hz : ¬ c = [] := List.length_pos_iff.mp (by omega)
  simp only [e0] at c1 c0
  rw [show qT n q = .tuple (qL n q) from rfl] at *
  have lst : setTg (.tup [.name 3, .name 4]) (.tuple [nT c, .tuple (qL n q)]) [sD (oTT (matO n f)), sD (fr B), sD (.tuple [nT c, .tuple (qL n q)]), none, none, none, none, none, none, none, none, none] = some [sD (oTT (matO n f)), sD (fr B), sD (.tuple [nT c, .tuple (qL n q)]), sD (nT c), sD (.tuple (qL n q)), none, none, none, none, none, none, none] := rfl
  have cle : (nI c).length = c.length := by simp
  have cle2 : (nI c).isEmpty = false := by cases c <;> simp_all
  rw [show nT c = .tuple (nI c) from rfl] at *
  generalize nI c = C at *
  generalize qL n q = Q at *
  generalize (c.map fun _ => PyData.bool true) = Z1 at *
  generalize ((steps c).map fun _ => PyData.bool false) = Z0 at *
  generalize (List.range n).map (fun (j : Nat) => PyData.int j) = L at *
  generalize matO n f = F at *
  simp [exs, ex, ev, evA, evT, evP, evO, evI, look_br, look_own, share_br, slotOf_br, setAll, shareAll, Dv.run, A_takes_rate, N_takes_rate, k, lst, hl, ls, cle, cle2, ql, cmp_ne_fr, mn, c1, b1, c0, b0, r, eo]
end
end K42

set_option Elab.async false
set_option linter.all false
set_option maxRecDepth 100000
set_option maxHeartbeats 1000000
/-! K42j: the paper made. -/
namespace K42
open PySem PySem.Spec PyProof.Rows L2 Dv
open Fx (fr Sm)
/-- numbers, told by their places -/
def tL (n : Nat) (t : Nat → Int) : List D := (List.range n).map fun i => PyData.int (t i)
theorem tL_at {n : Nat} {t : Nat → Int} {i : Nat} (h : i < n) : atI (tL n t) (i : Int) = some (.int (t i)) := by
  rw [at_nat (by simpa [tL] using h)]; simp [tL]
theorem tL_len (n : Nat) (t : Nat → Int) : (tL n t).length = n := by simp [tL]
def upT (t : Nat → Int) (i : Nat) (v : Int) : Nat → Int := fun k => if k = i then v else t k
theorem tL_set {n : Nat} {t : Nat → Int} {i : Nat} (v : Int) : (tL n t).set i (.int v) = tL n (upT t i v) := by
  apply List.ext_getElem
  · simp [tL]
  · intro k h1 h2
    simp [tL] at h2
    simp only [tL, upT, List.getElem_set, List.getElem_map, List.getElem_range]
    by_cases c : i = k
    · subst c; simp
    · rw [if_neg c, if_neg (fun e => c e.symm)]
def rlx (f : Nat → Nat → Option Int) (d num : Int) (r : Nat → Int) (i : Nat) (l : List Nat) (v : Int) : Int := l.foldl (fun v j => match f i j with
  | some w => max v (w * d - num + r j)
  | none => v) v
section
variable {n : Nat} {f : Nat → Nat → Option Int} (h : Ln (matO n f)) {B : Rat} (hB : Sm 10 B)
include h hB
theorem pap_in (τ : Tp) (s2 s3 s7 s11 : Option Sl) (r : Nat → Int) (s6 : Option Sl) (h6 : s6 = sO (tL n r) ∨ s6 = sD (.list (tL n r))) {i : Nat} (hi : i < n) : ∀ (l : List Nat) (t : Nat → Int) (o10 : Option Sl), (∀ j ∈ l, j < n) → ∃ p10,
    forLoop (exs Φ B_rate_paper_0) (.name 10) (l.map fun (j : Nat) => PyData.int j) [sD (oTT (matO n f)), sD (fr B), s2, s3, sI n, sI (B.den : Nat), s6, s7, sO (tL n t), sI i, o10, s11] τ
      = .nx [sD (oTT (matO n f)), sD (fr B), s2, s3, sI n, sI (B.den : Nat), s6, s7, sO (tL n (upT t i (rlx f B.den B.num r i l (t i)))), sI i, p10, s11] τ
  | [], t, o10, _ => ⟨o10, by
    have : upT t i (t i) = t := by
      funext k
      unfold upT
      split
      · rename_i e; rw [e]
      · rfl
    simp [forLoop, rlx, this]⟩
  | j :: l, t, o10, hl => by
    have hj := hl j (by simp)
    have x1 := mat_row (f := f) hi
    have x2 := vec_at (x := f i) hj
    cases hf : f i j with
    | none =>
      obtain ⟨p10, e⟩ := pap_in τ s2 s3 s7 s11 r s6 h6 hi l t (sI j) fun x hx => hl x (by simp [hx])
      refine ⟨p10, ?_⟩
      have hb : exs Φ B_rate_paper_0 [sD (oTT (matO n f)), sD (fr B), s2, s3, sI n, sI (B.den : Nat), s6, s7, sO (tL n t), sI i, sI j, s11] τ = .nx [sD (oTT (matO n f)), sD (fr B), s2, s3, sI n, sI (B.den : Nat), s6, s7, sO (tL n t), sI i, sI j, s11] τ := by
        rw [hf] at x2
        generalize vecO n (f i) = v at *
        generalize matO n f = F at *
        unfold B_rate_paper_0
        simp [exs, ex, ev, evA, evT, evP, evO, evI, look_br, look_own, share_br, slotOf_br, setAll, shareAll, x1, x2, isNone_oD]
      have er : rlx f B.den B.num r i (j :: l) (t i) = rlx f B.den B.num r i l (t i) := by simp [rlx, hf]
      rw [er]
      simp only [List.map_cons, forLoop, setTg, List.set]
      rw [hb]
      exact e
    | some w =>
      obtain ⟨p10, e⟩ := pap_in τ s2 s3 s7 s11 r s6 h6 hi l (upT t i (max (t i) (w * B.den - B.num + r j))) (sI j) fun x hx => hl x (by simp [hx])
      refine ⟨p10, ?_⟩
      have hw : w.natAbs ≤ 99 := by
        have hm : vecO n (f i) ∈ matO n f := List.mem_map.mpr ⟨i, by simpa using hi, rfl⟩
        have := h.lo _ hm w (List.mem_map.mpr ⟨j, by simpa using hj, hf⟩)
        omega
      have nd : ((B.den : Nat) : Int).natAbs < 2 ^ 10 := by simpa using hB.2
      have b1 : bitsOk w (B.den : Nat) = true := Fx.bits_k (k := 8) (m := 10) (j := (B.den : Nat)) (by omega) nd (by omega) (by omega)
      have y1 := tL_at (t := t) hi
      have y2 := tL_at (t := r) hj
      have y3 : ixN (tL n t).length (i : Int) = some i := by
        rw [tL_len]
        have : (i : Int) < n := by omega
        simp [ixN, this]
      have hb : exs Φ B_rate_paper_0 [sD (oTT (matO n f)), sD (fr B), s2, s3, sI n, sI (B.den : Nat), s6, s7, sO (tL n t), sI i, sI j, s11] τ = .nx [sD (oTT (matO n f)), sD (fr B), s2, s3, sI n, sI (B.den : Nat), s6, s7, sO (tL n (upT t i (max (t i) (w * B.den - B.num + r j)))), sI i, sI j, s11] τ := by
        rw [hf] at x2
        rw [← tL_set]
        generalize vecO n (f i) = v at *
        generalize matO n f = F at *
        generalize tL n t = Lt at *
        generalize tL n r = Lr at *
        unfold B_rate_paper_0
        rcases h6 with rfl | rfl
        · simp [exs, ex, ev, evA, evT, evP, evO, evI, look_br, look_own, share_br, slotOf_br, setAll, shareAll, x1, x2, oD, isNone_int, y1, y2, y3, fr_at0, bin_mul, b1]
        · simp [exs, ex, ev, evA, evT, evP, evO, evI, look_br, look_own, share_br, slotOf_br, setAll, shareAll, x1, x2, oD, isNone_int, y1, y2, y3, fr_at0, bin_mul, b1]
      have er : upT (upT t i (max (t i) (w * B.den - B.num + r j))) i (rlx f B.den B.num r i l (upT t i (max (t i) (w * B.den - B.num + r j)) i)) = upT t i (rlx f B.den B.num r i (j :: l) (t i)) := by
        funext k
        simp only [upT]
        split
        · simp [rlx, hf]
        · rfl
      rw [er] at e
      simp only [List.map_cons, forLoop, setTg, List.set]
      rw [hb]
      exact e
/-- one round -/
def rndT (n : Nat) (f : Nat → Nat → Option Int) (d num : Int) (r : Nat → Int) : Nat → Int := fun k => rlx f d num r k (List.range n) (r k)
omit h hB in
theorem tL_ext {n : Nat} {t u : Nat → Int} (h : ∀ i, i < n → t i = u i) : tL n t = tL n u := by
  unfold tL
  apply List.map_congr_left
  intro i hi
  simp at hi
  rw [h i hi]
theorem pap_mid (hn : n ≤ 6) (τ : Tp) (s2 s3 s7 s11 : Option Sl) (r : Nat → Int) (s6 : Option Sl) (h6 : s6 = sO (tL n r) ∨ s6 = sD (.list (tL n r))) : ∀ (l : List Nat) (t : Nat → Int) (o9 o10 : Option Sl), (∀ i ∈ l, i < n) → l.Nodup → ∃ p9 p10,
    forLoop (exs Φ B_rate_paper_1) (.name 9) (l.map fun (i : Nat) => PyData.int i) [sD (oTT (matO n f)), sD (fr B), s2, s3, sI n, sI (B.den : Nat), s6, s7, sO (tL n t), o9, o10, s11] τ
      = .nx [sD (oTT (matO n f)), sD (fr B), s2, s3, sI n, sI (B.den : Nat), s6, s7, sO (tL n fun k => if k ∈ l then rlx f B.den B.num r k (List.range n) (t k) else t k), p9, p10, s11] τ
  | [], t, o9, o10, _, _ => ⟨o9, o10, by simp [forLoop]⟩
  | i :: l, t, o9, o10, hl, hd => by
    rw [List.nodup_cons] at hd
    obtain ⟨q10, e⟩ := pap_in h hB τ s2 s3 s7 s11 r s6 h6 (hl i (by simp)) (List.range n) t o10 (fun j hj => by simpa using hj)
    obtain ⟨p9, p10, e2⟩ := pap_mid hn τ s2 s3 s7 s11 r s6 h6 l (upT t i (rlx f B.den B.num r i (List.range n) (t i))) (sI i) q10 (fun x hx => hl x (by simp [hx])) hd.2
    refine ⟨p9, p10, ?_⟩
    have rg := range_it (n := n) (by omega)
    have hb : exs Φ B_rate_paper_1 [sD (oTT (matO n f)), sD (fr B), s2, s3, sI n, sI (B.den : Nat), s6, s7, sO (tL n t), sI i, o10, s11] τ = .nx [sD (oTT (matO n f)), sD (fr B), s2, s3, sI n, sI (B.den : Nat), s6, s7, sO (tL n (upT t i (rlx f B.den B.num r i (List.range n) (t i)))), sI i, q10, s11] τ := by
      generalize ((List.range n).map fun (j : Nat) => PyData.int j) = L at *
      unfold B_rate_paper_1
      simp [exs, ex, ev, evA, evT, evP, evO, evI, look_br, look_own, share_br, slotOf_br, setAll, shareAll, rg, e]
    simp only [List.map_cons, forLoop, setTg, List.set]
    rw [hb]
    dsimp only
    rw [e2]
    have er : (fun k => if k ∈ l then rlx f B.den B.num r k (List.range n) (upT t i (rlx f B.den B.num r i (List.range n) (t i)) k) else upT t i (rlx f B.den B.num r i (List.range n) (t i)) k) = fun k => if k ∈ i :: l then rlx f B.den B.num r k (List.range n) (t k) else t k := by
      funext k
      by_cases c : k = i
      · subst c
        simp [hd.1, upT]
      · simp [upT, c]
    rw [er]
def itT (n : Nat) (f : Nat → Nat → Option Int) (d num : Int) : Nat → (Nat → Int) → Nat → Int
  | 0, r => r
  | m + 1, r => itT n f d num m (rndT n f d num r)
theorem pap_out (hn : n ≤ 6) (τ : Tp) (s2 s3 s11 : Option Sl) : ∀ (l : List D) (r : Nat → Int) (s6 s7 s8 s9 s10 : Option Sl), (s6 = sO (tL n r) ∨ s6 = sD (.list (tL n r))) → ∃ p6 p7 p8 p9 p10, (p6 = sO (tL n (itT n f B.den B.num l.length r)) ∨ p6 = sD (.list (tL n (itT n f B.den B.num l.length r)))) ∧
    forLoop (exs Φ B_rate_paper_2) (.name 7) l [sD (oTT (matO n f)), sD (fr B), s2, s3, sI n, sI (B.den : Nat), s6, s7, s8, s9, s10, s11] τ
      = .nx [sD (oTT (matO n f)), sD (fr B), s2, s3, sI n, sI (B.den : Nat), p6, p7, p8, p9, p10, s11] τ
  | [], r, s6, s7, s8, s9, s10, h6 => ⟨s6, s7, s8, s9, s10, h6, rfl⟩
  | x :: l, r, s6, s7, s8, s9, s10, h6 => by
    obtain ⟨q9, q10, e⟩ := pap_mid h hB hn τ s2 s3 (sD x) s11 r s6 h6 (List.range n) r s9 s10 (fun i hi => by simpa using hi) List.nodup_range
    have et : tL n (fun k => if k ∈ List.range n then rlx f B.den B.num r k (List.range n) (r k) else r k) = tL n (rndT n f B.den B.num r) := tL_ext fun i hi => by simp [hi, rndT]
    rw [et] at e
    obtain ⟨p6, p7, p8, p9, p10, hp, e2⟩ := pap_out hn τ s2 s3 s11 l (rndT n f B.den B.num r) (sD (.list (tL n (rndT n f B.den B.num r)))) (sD x) (sD (.list (tL n (rndT n f B.den B.num r)))) q9 q10 (.inr rfl)
    refine ⟨p6, p7, p8, p9, p10, hp, ?_⟩
    have rg := range_it (n := n) (by omega)
    have hb : exs Φ B_rate_paper_2 [sD (oTT (matO n f)), sD (fr B), s2, s3, sI n, sI (B.den : Nat), s6, sD x, s8, s9, s10, s11] τ = .nx [sD (oTT (matO n f)), sD (fr B), s2, s3, sI n, sI (B.den : Nat), sD (.list (tL n (rndT n f B.den B.num r))), sD x, sD (.list (tL n (rndT n f B.den B.num r))), q9, q10, s11] τ := by
      generalize ((List.range n).map fun (j : Nat) => PyData.int j) = L at *
      generalize tL n (rndT n f B.den B.num r) = T2 at *
      generalize tL n r = T1 at *
      unfold B_rate_paper_2
      rcases h6 with rfl | rfl
      · simp [exs, ex, ev, evA, evT, evP, evO, evI, look_br, look_own, share_br, slotOf_br, setAll, shareAll, rg, e, share_own, slotOf]
      · simp [exs, ex, ev, evA, evT, evP, evO, evI, look_br, look_own, share_br, slotOf_br, setAll, shareAll, rg, e, share_own, slotOf]
    simp only [forLoop, setTg, List.set]
    rw [hb]
    exact e2
end
theorem nT_inj {a b : List Nat} (h : nT a = nT b) : a = b := by
  have h1 : nI a = nI b := by injection h
  have h2 : ∀ (a b : List Nat), nI a = nI b → a = b := by
    intro a
    induction a with
    | nil =>
      intro b hb
      cases b with
      | nil => rfl
      | cons _ _ => simp at hb
    | cons x a ih =>
      intro b hb
      cases b with
      | nil => simp at hb
      | cons y b =>
        simp only [nI, List.map_cons, List.cons.injEq, PyData.int.injEq] at hb
        have := ih b hb.2
        rw [this]
        congr 1
        omega
  exact h2 a b h1
open Classical in
theorem paper_ok {n : Nat} {f : Nat → Nat → Option Int} (h : Ln (matO n f)) {B : Rat} (hm : IsMax ((circF (edge (matO n f)) n).map (meanF (wt (matO n f)))) (some B)) (τ : Tp) :
    ∃ c0, Circ (edge (matO n f)) n c0 ∧ meanF (wt (matO n f)) c0 = B ∧ Φ "rate_paper" [.d (oTT (matO n f))] τ = .ok (.d (.tuple [nT c0, qT n fun i => Rat.divInt (itT n f B.den B.num (n + 1) (fun _ => 0) i) B.den])) τ := by
  have hl : (matO n f).length = n := matO_len n f
  have hn := h.l2
  have hn1 := h.l1
  rw [hl] at hn hn1
  have cs := circles_ok h τ
  have rt : Φ "rate" [.d (oTT (matO n f))] τ = .ok (.d (fr B)) τ := rate_is h (o := some B) (by rw [hl]; exact hm) τ
  have mem := fun c => circF_mem (e := edge (matO n f)) hn (c := c)
  rw [hl] at cs
  obtain ⟨cB, hcB, eB⟩ := List.mem_map.mp hm.1
  have hB : Sm 10 B := by
    rw [← eB]
    exact mean_sm h (by rw [hl]; exact (mem cB).mp hcB)
  have clen := circF_len (e := edge (matO n f)) hn
  let e0 : Dv.Env := [sD (oTT (matO n f)), sD (fr B), none, none, none, none, none, none, none, none, none, none]
  let l : List D := sortD ((circF (edge (matO n f)) n).map nT)
  let p : D → Bool := fun x => decide (∃ c, x = nT c ∧ meanF (wt (matO n f)) c = B)
  have lmem : ∀ x ∈ l, ∃ c, x = nT c ∧ Circ (edge (matO n f)) n c := fun x hx => by
    obtain ⟨c, hc, rfl⟩ := List.mem_map.mp (mem_sort.mp hx)
    exact ⟨c, rfl, (mem c).mp hc⟩
  have c1 : ev Φ C_rate_paper_1 e0 τ = .ok (.fr ((l.filter p).map id)) e0 τ := by
    refine comp_pure (l := l) (φ := id) (p := p) (env1 := e0) (envs := fun x => [sD (oTT (matO n f)), sD (fr B), none, sD x, none, none, none, none, none, none, none, none]) ?_ rfl ?_ (fun a _ => rfl) (fun a _ => rfl) rfl (fun a _ => rfl) (fun x hx => ?_) (fun x _ _ => ⟨_, rfl, rfl⟩)
    · rw [List.map_id]
      show _ = Dv.R.ok l _ _
      simp only [e0, l]
      generalize sortD ((circF (edge (matO n f)) n).map nT) = Z at *
      generalize matO n f = F at *
      simp [exs, ex, ev, evA, evT, evP, evO, evI, look_br, look_own, share_br, slotOf_br, setAll, shareAll, cs]
    · show (sortD _).length ≤ _
      unfold sortD
      rw [List.length_mergeSort, List.length_map]
      omega
    · obtain ⟨c, rfl, hc⟩ := lmem x hx
      have mo := mean_circ h (by rw [hl]; exact hc) τ
      have ep : p (nT c) = decide (meanF (wt (matO n f)) c = B) := by
        show decide _ = decide _
        rw [decide_eq_decide]
        constructor
        · rintro ⟨c', e1, e2⟩
          rw [nT_inj e1]
          exact e2
        · exact fun e => ⟨c, rfl, e⟩
      rw [ep]
      generalize meanF (wt (matO n f)) c = M at *
      generalize nI c = C at *
      generalize matO n f = F at *
      unfold L_rate_paper_1
      simp [exs, ex, ev, evA, evT, evP, evO, evI, look_br, look_own, share_br, slotOf_br, setAll, shareAll, mo, cmp_eq_fr]
  rw [List.map_id] at c1
  obtain ⟨c0, rest, hf⟩ : ∃ c0 rest, l.filter p = c0 :: rest := by
    cases hf : l.filter p with
    | nil =>
      have : nT cB ∈ l.filter p := by
        rw [List.mem_filter]
        exact ⟨mem_sort.mpr (List.mem_map.mpr ⟨cB, hcB, rfl⟩), decide_eq_true ⟨cB, rfl, eB⟩⟩
      rw [hf] at this
      cases this
    | cons a t => exact ⟨a, t, rfl⟩
  have h0 : c0 ∈ l.filter p := by rw [hf]; simp
  rw [List.mem_filter] at h0
  obtain ⟨c, rfl, hc⟩ := lmem c0 h0.1
  have hcm : meanF (wt (matO n f)) c = B := by
    obtain ⟨c', e1, e2⟩ := of_decide_eq_true h0.2
    rw [nT_inj e1]
    exact e2
  refine ⟨c, hc, hcm, ?_⟩
  rw [hf] at c1
  have a0 : atI (nT c :: rest) 0 = some (nT c) := by
    have := at_nat (xs := nT c :: rest) (n := 0) (by simp)
    simpa using this
  have zr : binD .mul (.list [.int 0]) (.int n) = some (.fr (tL n fun _ => 0)) := by
    have : binD .mul (.list [.int 0]) (.int n) = some (.fr (List.replicate (n : Int).toNat [PyData.int 0]).flatten) := if_pos (by simp; omega)
    rw [this]
    congr 2
    simp [tL, List.map_const']
  obtain ⟨L, hL⟩ : ∃ L, L = (List.range (n + 1)).map fun (k : Nat) => PyData.int k := ⟨_, rfl⟩
  have rg : itemsD .range1 [.int (n + 1 : Nat)] = some L := by rw [hL]; exact range_it (by omega)
  have lenL : L.length = n + 1 := by rw [hL]; simp
  obtain ⟨p6, p7, p8, p9, p10, hp, e⟩ := pap_out h hB hn τ (sD (nT c)) none none L (fun _ => 0) (sO (tL n fun _ => 0)) none none none none (.inl rfl)
  rw [lenL] at hp
  have c0 : ∀ s7 s8 s9 s10, ev Φ C_rate_paper_0 [sD (oTT (matO n f)), sD (fr B), sD (nT c), none, sI n, sI (B.den : Nat), p6, s7, s8, s9, s10, none] τ = .ok (.fr (qL n fun i => Rat.divInt (itT n f B.den B.num (n + 1) (fun _ => 0) i) B.den)) [sD (oTT (matO n f)), sD (fr B), sD (nT c), none, sI n, sI (B.den : Nat), sD (.list (tL n (itT n f B.den B.num (n + 1) fun _ => 0))), s7, s8, s9, s10, none] τ := by
    intro s7 s8 s9 s10
    generalize (itT n f B.den B.num (n + 1) fun _ => 0) = R at *
    refine comp_map (l := List.range n) (φ := fun i => PyData.int (R i)) (env1 := [sD (oTT (matO n f)), sD (fr B), sD (nT c), none, sI n, sI (B.den : Nat), sD (.list (tL n R)), s7, s8, s9, s10, none]) (envs := fun i => [sD (oTT (matO n f)), sD (fr B), sD (nT c), none, sI n, sI (B.den : Nat), sD (.list (tL n R)), s7, s8, s9, s10, sI (R i)]) ?_ rfl (by simp; omega) (fun a _ => rfl) (fun a _ => rfl) rfl (fun a _ => rfl) fun i hi => ?_
    · show _ = Dv.R.ok (tL n R) _ _
      generalize tL n R = T at *
      rcases hp with rfl | rfl
      · simp [exs, ex, ev, evA, evT, evP, evO, evI, look_br, look_own, share_br, slotOf_br, setAll, shareAll, share_own]
      · simp [exs, ex, ev, evA, evT, evP, evO, evI, look_br, look_own, share_br, slotOf_br, setAll, shareAll]
    · have := mk_share (R i) (B.den : Nat) τ (by have := B.den_nz; omega) (Fx.sm_of (k := 10) (by simpa using hB.2) (by omega))
      unfold K_rate_paper_0
      refine ⟨.sh (.d (fr (Rat.divInt (R i) (B.den : Nat)))), ?_, rfl⟩
      generalize tL n R = T at *
      generalize nI c = C at *
      generalize matO n f = F at *
      simp [exs, ex, ev, evA, evT, evP, evO, evI, look_br, look_own, share_br, slotOf_br, setAll, shareAll, this]
  rw [Φ_rate_paper]
  simp only [e0] at c1
  have nn : ((n : Int) + 1) = ((n + 1 : Nat) : Int) := by omega
  show _ = FR.ok (.d (.tuple [.tuple (nI c), .tuple (qL n fun i => Rat.divInt (itT n f B.den B.num (n + 1) (fun _ => 0) i) B.den)])) τ
  generalize qL n (fun i => Rat.divInt (itT n f B.den B.num (n + 1) (fun _ => 0) i) B.den) = Q at *
  generalize (tL n (itT n f B.den B.num (n + 1) fun _ => 0)) = T2 at *
  generalize (tL n fun _ => 0) = T1 at *
  have ntc : nT c = .tuple (nI c) := rfl
  rw [ntc] at *
  generalize hC : nI c = C at *
  generalize matO n f = F at *
  have en : isNone (fr B) = false := rfl
  generalize ((n + 1 : Nat) : Int) = n1 at *
  simp [exs, ex, ev, evA, evT, evP, evO, evI, look_br, look_own, share_br, slotOf_br, setAll, shareAll, Dv.run, A_rate_paper, N_rate_paper, rt, en, c1, a0, hl, fr_at1, zr, nn, rg, e, c0, hC]
end K42

set_option Elab.async false
set_option linter.all false
set_option maxRecDepth 100000
set_option maxHeartbeats 1000000
/-! K42k: circles turned, circles and walks. -/
namespace K42
open PySem PySem.Spec PyProof.Rows L2 Dv
open Fx (fr Sm)
/-- the steps of a way -/
def pst : List Nat → List (Nat × Nat)
  | x :: y :: t => (x, y) :: pst (y :: t)
  | _ => []
theorem pst_app : ∀ (a : List Nat) (m : Nat) (b : List Nat), pst (a ++ m :: b) = pst (a ++ [m]) ++ pst (m :: b)
  | [], m, b => by simp [pst]
  | [x], m, b => by
    show (x, m) :: pst (m :: b) = _
    simp [pst]
  | x :: y :: a, m, b => by
    have := pst_app (y :: a) m b
    simp only [List.cons_append, pst] at this ⊢
    rw [this]
theorem pst_zip : ∀ (x : Nat) (t : List Nat) (z : Nat), pst (x :: t ++ [z]) = (x :: t).zip (t ++ [z])
  | x, [], z => by simp [pst]
  | x, y :: t, z => by
    have := pst_zip y t z
    simp only [List.cons_append, pst, List.zip_cons_cons] at this ⊢
    rw [this]
theorem steps_pst (x : Nat) (t : List Nat) : steps (x :: t) = pst (x :: t ++ [x]) := by
  rw [pst_zip]
  simp [steps]
theorem steps_rot (a b : List Nat) : (steps (b ++ a)).Perm (steps (a ++ b)) := by
  cases a with
  | nil => simp
  | cons x a =>
    cases b with
    | nil => simp
    | cons y b =>
      have e1 : steps (x :: a ++ y :: b) = pst (x :: a ++ [y]) ++ pst (y :: b ++ [x]) := by
        have := pst_app (x :: a) y (b ++ [x])
        rw [List.cons_append, steps_pst]
        simpa using this
      have e2 : steps (y :: b ++ x :: a) = pst (y :: b ++ [x]) ++ pst (x :: a ++ [y]) := by
        have := pst_app (y :: b) x (a ++ [y])
        rw [List.cons_append, steps_pst]
        simpa using this
      rw [e1, e2]
      exact List.perm_append_comm
/-- a circle, begun anywhere -/
structure Cyc (e : Nat → Nat → Bool) (n : Nat) (c : List Nat) : Prop where
  ne : c ≠ []
  nd : c.Nodup
  lt : ∀ k ∈ c, k < n
  st : ∀ p ∈ steps c, e p.1 p.2 = true
theorem Cyc.rot {e : Nat → Nat → Bool} {n : Nat} {a b : List Nat} (h : Cyc e n (a ++ b)) : Cyc e n (b ++ a) := by
  refine ⟨fun e => h.ne ?_, ?_, fun k hk => h.lt k ?_, fun p hp => h.st p ((steps_rot a b).mem_iff.mp hp)⟩
  · simp at e ⊢
    exact ⟨e.2, e.1⟩
  · exact List.perm_append_comm.nodup_iff.mp h.nd
  · simp at hk ⊢
    exact hk.symm
theorem perm_sum {l m : List Int} (h : l.Perm m) : l.sum = m.sum := by
  induction h with
  | nil => rfl
  | cons x _ ih => rw [List.sum_cons, List.sum_cons, ih]
  | swap x y l => simp only [List.sum_cons]; omega
  | trans _ _ a b => exact a.trans b
theorem sum_rot (w : Nat → Nat → Int) (a b : List Nat) : sumC w (b ++ a) = sumC w (a ++ b) := by
  unfold sumC
  exact perm_sum ((steps_rot a b).map _)
theorem circ_cyc {e : Nat → Nat → Bool} {n : Nat} {c : List Nat} (h : Circ e n c) : Cyc e n c := by
  have st := step_edge h
  obtain ⟨s, w, _⟩ := h
  exact ⟨w.ne, w.nd, fun k hk => (w.lt k hk).2, fun p hp => (st p hp).1⟩
theorem cyc_circ {e : Nat → Nat → Bool} {n x : Nat} {t : List Nat} (h : Cyc e n (x :: t)) (hx : ∀ k ∈ t, x ≤ k) : Circ e n (x :: t) := by
  have get : ∀ i (hi : i < (x :: t).length), e ((x :: t)[i]) (if h2 : i + 1 < (x :: t).length then (x :: t)[i + 1] else x) = true := fun i hi => by
    have := h.st ((steps (x :: t))[i]'(by rw [steps_len]; exact hi)) (List.getElem_mem _)
    rw [steps_get hi] at this
    exact this
  refine ⟨x, ⟨rfl, h.nd, fun k hk => ⟨?_, h.lt k hk⟩, fun i hi => ?_⟩, ?_⟩
  · rcases List.mem_cons.mp hk with rfl | hk
    · exact Nat.le_refl _
    · exact hx k hk
  · have := get i (by omega)
    rw [dif_pos hi] at this
    exact this
  · have := get ((x :: t).length - 1) (by simp)
    rw [dif_neg (by simp)] at this
    rw [last_get (by simp)]
    exact this
theorem min_mem : ∀ {c : List Nat}, c ≠ [] → ∃ a x b, c = a ++ x :: b ∧ ∀ k ∈ c, x ≤ k
  | [], h => absurd rfl h
  | [x], _ => ⟨[], x, [], rfl, by simp⟩
  | y :: z :: t, _ => by
    obtain ⟨a, x, b, e, h⟩ := min_mem (c := z :: t) (by simp)
    by_cases c : y ≤ x
    · refine ⟨[], y, z :: t, rfl, fun k hk => ?_⟩
      rcases List.mem_cons.mp hk with rfl | hk
      · exact Nat.le_refl _
      · have := h k hk
        omega
    · refine ⟨y :: a, x, b, by rw [e]; rfl, fun k hk => ?_⟩
      rcases List.mem_cons.mp hk with rfl | hk
      · omega
      · exact h k hk
/-- every circle can be begun at its least place -/
theorem cyc_turn {e : Nat → Nat → Bool} {n : Nat} {c : List Nat} (h : Cyc e n c) : ∃ a b, c = a ++ b ∧ Circ e n (b ++ a) := by
  obtain ⟨a, x, b, rfl, hx⟩ := min_mem h.ne
  refine ⟨a, x :: b, rfl, ?_⟩
  have := h.rot
  exact cyc_circ this fun k hk => hx k (by simp at hk ⊢; rcases hk with hk | hk <;> simp [hk])
theorem mean_turn (w : Nat → Nat → Int) (a b : List Nat) : meanF w (b ++ a) = meanF w (a ++ b) := by
  unfold meanF
  rw [sum_rot, List.length_append, List.length_append, Nat.add_comm]
end K42

set_option Elab.async false
set_option linter.all false
set_option maxRecDepth 100000
set_option maxHeartbeats 1000000
/-! K42n: lines with potentials, moved, multiplied, across. -/
namespace K42
open PySem PySem.Spec PyProof.Rows L2 Dv
open Fx (fr Sm)
theorem edge_mat (n : Nat) (f : Nat → Nat → Option Int) (a b : Nat) : edge (matO n f) a b = (decide (a < n) && decide (b < n) && (f a b).isSome) := by
  unfold edge matO vecO
  by_cases ha : a < n
  · by_cases hb : b < n
    · simp [ha, hb]
    · simp [ha, hb, List.getElem?_eq_none]
  · simp [ha, List.getElem?_eq_none]
theorem wt_mat {n : Nat} {f : Nat → Nat → Option Int} {a b : Nat} (ha : a < n) (hb : b < n) : wt (matO n f) a b = (f a b).getD 0 := by
  unfold wt matO vecO
  simp [ha, hb]
theorem edge_same {n : Nat} {f g : Nat → Nat → Option Int} (h : ∀ i j, i < n → j < n → (f i j).isSome = (g i j).isSome) : edge (matO n f) = edge (matO n g) := by
  funext a b
  rw [edge_mat, edge_mat]
  by_cases ha : a < n
  · by_cases hb : b < n
    · simp [ha, hb, h a b ha hb]
    · simp [hb]
  · simp [ha]
/-! ### sums over circles -/
theorem steps_fst (c : List Nat) : (steps c).map (·.1) = c := by
  unfold steps
  rw [List.map_fst_zip]
  cases c <;> simp
theorem steps_snd (c : List Nat) : ((steps c).map (·.2)).Perm c := by
  unfold steps
  rw [List.map_snd_zip (by cases c <;> simp)]
  cases c with
  | nil => simp
  | cons x t => simpa using List.perm_append_comm (l₁ := t) (l₂ := [x])
theorem sum_map_add {α : Type} (f g : α → Int) : ∀ l : List α, (l.map fun a => f a + g a).sum = (l.map f).sum + (l.map g).sum
  | [] => by simp
  | a :: l => by
    simp only [List.map_cons, List.sum_cons, sum_map_add f g l]
    omega
theorem sum_map_mul {α : Type} (k : Int) (f : α → Int) : ∀ l : List α, (l.map fun a => k * f a).sum = k * (l.map f).sum
  | [] => by simp
  | a :: l => by
    simp only [List.map_cons, List.sum_cons, sum_map_mul k f l, Int.mul_add]
theorem sum_map_const {α : Type} (k : Int) : ∀ l : List α, (l.map fun _ => k).sum = l.length * k
  | [] => by simp
  | a :: l => by
    simp only [List.map_cons, List.sum_cons, sum_map_const k l, List.length_cons]
    rw [show ((l.length + 1 : Nat) : Int) = l.length + 1 by omega, Int.add_mul, Int.one_mul]
    omega
theorem sum_pot (g : Nat → Int) (c : List Nat) : ((steps c).map fun p => g p.1 - g p.2).sum = 0 := by
  have e : (fun p : Nat × Nat => g p.1 - g p.2) = fun p => g p.1 + (-1) * g p.2 := by funext p; omega
  rw [e, sum_map_add, sum_map_mul]
  have a : (steps c).map (fun p => g p.1) = c.map g := by
    rw [show (fun p : Nat × Nat => g p.1) = g ∘ (·.1) from rfl, ← List.map_map, steps_fst]
  have b : ((steps c).map fun p => g p.2).sum = (c.map g).sum := by
    rw [show (fun p : Nat × Nat => g p.2) = g ∘ (·.2) from rfl, ← List.map_map]
    exact perm_sum ((steps_snd c).map g)
  rw [a, b]
  omega
theorem sumC_congr {w v : Nat → Nat → Int} {c : List Nat} (h : ∀ p ∈ steps c, w p.1 p.2 = v p.1 p.2) : sumC w c = sumC v c := by
  unfold sumC
  rw [List.map_congr_left h]
/-! ### potentials -/
def potO (g : Nat → Int) (f : Nat → Nat → Option Int) : Nat → Nat → Option Int := fun i j => (f i j).map fun a => a + (g i - g j)
theorem pot_edge (n : Nat) (g : Nat → Int) (f : Nat → Nat → Option Int) : edge (matO n (potO g f)) = edge (matO n f) := edge_same fun i j _ _ => by simp [potO]
theorem pot_sum {n : Nat} {g : Nat → Int} {f : Nat → Nat → Option Int} {c : List Nat} (h : Circ (edge (matO n f)) n c) : sumC (wt (matO n (potO g f))) c = sumC (wt (matO n f)) c := by
  have st := step_edge h
  have e1 : sumC (wt (matO n (potO g f))) c = sumC (fun a b => wt (matO n f) a b + (g a - g b)) c := sumC_congr fun p hp => by
    obtain ⟨a, b, d⟩ := st p hp
    rw [wt_mat b d, wt_mat b d]
    rw [edge_mat] at a
    simp [b, d] at a
    obtain ⟨v, hv⟩ := Option.isSome_iff_exists.mp a
    simp [potO, hv]
  rw [e1]
  unfold sumC
  rw [sum_map_add, sum_pot]
  omega
theorem pot_mean {n : Nat} {g : Nat → Int} {f : Nat → Nat → Option Int} {c : List Nat} (h : Circ (edge (matO n f)) n c) : meanF (wt (matO n (potO g f))) c = meanF (wt (matO n f)) c := by
  unfold meanF
  rw [pot_sum h]
theorem later_add (a b : Option Int) (k : Int) : (laterO a b).map (· + k) = laterO (a.map (· + k)) (b.map (· + k)) := by
  cases a <;> cases b <;> simp [laterO]
theorem dot_add (n : Nat) (f g : Nat → Option Int) (f' g' : Nat → Option Int) (k : Int) (h : ∀ i, i < n → joinedO (f' i) (g' i) = (joinedO (f i) (g i)).map (· + k)) : dotO n f' g' = (dotO n f g).map (· + k) := by
  unfold dotO
  have go : ∀ (l : List Nat) (b b' : Option Int), (∀ i ∈ l, i < n) → b' = b.map (· + k) → l.foldl (fun b k => laterO b (joinedO (f' k) (g' k))) b' = (l.foldl (fun b k => laterO b (joinedO (f k) (g k))) b).map (· + k) := by
    intro l
    induction l with
    | nil => exact fun b b' _ e => e
    | cons i l ih =>
      intro b b' hl e
      simp only [List.foldl_cons]
      refine ih _ _ (fun x hx => hl x (by simp [hx])) ?_
      rw [e, h i (hl i (by simp)), later_add]
  exact go (List.range n) none none (fun i hi => by simpa using hi) rfl
theorem pot_mul (n : Nat) (g : Nat → Int) (f1 f2 : Nat → Nat → Option Int) (i j : Nat) : mulO n (potO g f1) (potO g f2) i j = potO g (mulO n f1 f2) i j := by
  show dotO n _ _ = (dotO n _ _).map _
  refine dot_add n _ _ _ _ (g i - g j) fun k hk => ?_
  simp only [potO]
  cases f1 i k <;> cases f2 k j <;> simp [joinedO]
  omega
theorem pot_pow (n : Nat) (g : Nat → Int) (f : Nat → Nat → Option Int) : ∀ m, powO n (potO g f) m = potO g (powO n f m)
  | 0 => by
    funext i j
    simp only [powO, unitO, potO]
    by_cases c : i = j
    · subst c; simp
    · simp [c]
  | m + 1 => by
    funext i j
    rw [powO, pot_pow n g f m, pot_mul]
    rfl
theorem pot_run (n : Nat) (g : Nat → Int) (f : Nat → Nat → Option Int) (x : Nat → Option Int) : ∀ m i, runO n (potO g f) (fun i => (x i).map (· + g i)) m i = (runO n f x m i).map (· + g i)
  | 0, i => rfl
  | m + 1, i => by
    show dotO n _ _ = (dotO n _ _).map _
    refine dot_add n _ _ _ _ (g i) fun k hk => ?_
    rw [pot_run n g f x m k]
    simp only [potO]
    cases f i k <;> cases runO n f x m k <;> simp [joinedO]
    omega
/-! ### all moved -/
theorem move_edge (n : Nat) (f : Nat → Nat → Option Int) (b : Int) : edge (matO n (moveO f b)) = edge (matO n f) := edge_same fun i j _ _ => by
  simp only [moveO]
  cases f i j <;> rfl
theorem move_sum {n : Nat} {f : Nat → Nat → Option Int} {b : Int} {c : List Nat} (h : Circ (edge (matO n f)) n c) : sumC (wt (matO n (moveO f b))) c = sumC (wt (matO n f)) c + c.length * b := by
  have st := step_edge h
  have e1 : sumC (wt (matO n (moveO f b))) c = sumC (fun x y => wt (matO n f) x y + b) c := sumC_congr fun p hp => by
    obtain ⟨a, q, d⟩ := st p hp
    rw [wt_mat q d, wt_mat q d]
    rw [edge_mat] at a
    simp [q, d] at a
    obtain ⟨v, hv⟩ := Option.isSome_iff_exists.mp a
    simp [moveO, hv, joinedO]
  rw [e1]
  unfold sumC
  rw [sum_map_add, sum_map_const, steps_len]
/-! ### across -/
theorem later_comm (a b : Option Int) : laterO a b = laterO b a := by
  cases a <;> cases b <;> simp [laterO]
  omega
theorem joined_comm (a b : Option Int) : joinedO a b = joinedO b a := by
  cases a <;> cases b <;> simp [joinedO]
  omega
end K42

set_option Elab.async false
set_option linter.all false
set_option maxRecDepth 100000
set_option maxHeartbeats 1000000
/-! K42o: products of times, ordered; across. -/
namespace K42
open PySem PySem.Spec PyProof.Rows L2 Dv
open Fx (fr Sm)
def leO : Option Int → Option Int → Prop
  | none, _ => True
  | some x, some y => x ≤ y
  | some _, none => False
theorem leO_refl (a : Option Int) : leO a a := by cases a <;> simp [leO]
theorem leO_antisymm {a b : Option Int} (h1 : leO a b) (h2 : leO b a) : a = b := by
  cases a <;> cases b <;> simp [leO] at *
  omega
theorem leO_ext {a b : Option Int} (h : ∀ z, leO a z ↔ leO b z) : a = b := leO_antisymm ((h b).mpr (leO_refl b)) ((h a).mp (leO_refl a))
theorem later_le {a b z : Option Int} : leO (laterO a b) z ↔ leO a z ∧ leO b z := by
  cases a <;> cases b <;> cases z <;> simp [leO, laterO]
  omega
theorem fold_le {α : Type} {F : α → Option Int} {z : Option Int} : ∀ (l : List α) (b : Option Int), leO (l.foldl (fun b k => laterO b (F k)) b) z ↔ leO b z ∧ ∀ k ∈ l, leO (F k) z
  | [], b => by simp
  | a :: l, b => by
    rw [List.foldl_cons, fold_le l, later_le]
    simp
    exact and_assoc
theorem dot_le {n : Nat} {f g : Nat → Option Int} {z : Option Int} : leO (dotO n f g) z ↔ ∀ k, k < n → leO (joinedO (f k) (g k)) z := by
  unfold dotO
  rw [fold_le (F := fun k => joinedO (f k) (g k))]
  simp [leO]
/-- what is asked of a, for a + c to be at most z -/
def sub? : Option Int → Option Int → Option (Option Int)
  | none, _ => none
  | some c, some z => some (some (z - c))
  | some _, none => some none
theorem joined_le {a c z : Option Int} : leO (joinedO a c) z ↔ match sub? c z with
    | none => True
    | some y => leO a y := by
  cases a <;> cases c <;> cases z <;> simp [leO, joinedO, sub?]
  omega
theorem dot_joined {n : Nat} {f g : Nat → Option Int} {c z : Option Int} : leO (joinedO (dotO n f g) c) z ↔ ∀ k, k < n → leO (joinedO (joinedO (f k) (g k)) c) z := by
  rw [joined_le]
  cases h : sub? c z with
  | none =>
    simp only [true_iff]
    intro k _
    rw [joined_le, h]
    trivial
  | some y =>
    simp only []
    rw [dot_le]
    constructor
    · intro q k hk
      rw [joined_le, h]
      exact q k hk
    · intro q k hk
      have := q k hk
      rw [joined_le, h] at this
      exact this
theorem joined_assoc (a b c : Option Int) : joinedO (joinedO a b) c = joinedO a (joinedO b c) := by
  cases a <;> cases b <;> cases c <;> simp [joinedO]
  omega
theorem mul_assoc (n : Nat) (f g h : Nat → Nat → Option Int) : mulO n (mulO n f g) h = mulO n f (mulO n g h) := by
  funext i j
  apply leO_ext
  intro z
  unfold mulO
  rw [dot_le, dot_le]
  constructor
  · intro q k hk
    rw [joined_comm, dot_joined]
    intro l hl
    have := (dot_joined.mp (q l hl)) k hk
    rw [joined_comm, ← joined_assoc]
    exact this
  · intro q k hk
    rw [dot_joined]
    intro l hl
    have := q l hl
    rw [joined_comm, dot_joined] at this
    have := this k hk
    rw [joined_comm, ← joined_assoc] at this
    exact this
/-- entries within n alone -/
def cutO (n : Nat) (f : Nat → Nat → Option Int) : Nat → Nat → Option Int := fun i j => if i < n ∧ j < n then f i j else none
theorem unit_mul {n : Nat} (f : Nat → Nat → Option Int) {i : Nat} (hi : i < n) (j : Nat) : mulO n unitO f i j = f i j := by
  apply leO_ext
  intro z
  unfold mulO
  rw [dot_le]
  constructor
  · intro q
    have := q i hi
    simp only [unitO, if_pos, joinedO] at this
    cases hf : f i j with
    | none => trivial
    | some v =>
      rw [hf] at this
      simpa [joinedO] using this
  · intro q k hk
    by_cases c : i = k
    · subst c
      simp only [unitO, if_pos]
      cases hf : f i j with
      | none => trivial
      | some v =>
        rw [hf] at q
        simpa [joinedO] using q
    · simp [unitO, c, joinedO, leO]
theorem mul_unit {n : Nat} (f : Nat → Nat → Option Int) (i : Nat) {j : Nat} (hj : j < n) : mulO n f unitO i j = f i j := by
  apply leO_ext
  intro z
  unfold mulO
  rw [dot_le]
  constructor
  · intro q
    have := q j hj
    simp only [unitO, if_pos] at this
    cases hf : f i j with
    | none => trivial
    | some v =>
      rw [hf] at this
      simpa [joinedO] using this
  · intro q k hk
    by_cases c : k = j
    · subst c
      simp only [unitO, if_pos]
      cases hf : f i k with
      | none => trivial
      | some v =>
        rw [hf] at q
        simpa [joinedO] using q
    · simp only [unitO, if_neg c]
      cases f i k <;> simp [joinedO, leO]
theorem mul_congr {n : Nat} {f f' g g' : Nat → Nat → Option Int} {i j : Nat} (h1 : ∀ k, k < n → f i k = f' i k) (h2 : ∀ k, k < n → g k j = g' k j) : mulO n f g i j = mulO n f' g' i j := by
  apply leO_ext
  intro z
  unfold mulO
  rw [dot_le, dot_le]
  constructor
  · intro q k hk
    rw [← h1 k hk, ← h2 k hk]
    exact q k hk
  · intro q k hk
    rw [h1 k hk, h2 k hk]
    exact q k hk
/-- a power more, ahead or behind -/
theorem pow_comm {n : Nat} (f : Nat → Nat → Option Int) : ∀ (m i j : Nat), i < n → j < n → mulO n (powO n f m) f i j = mulO n f (powO n f m) i j
  | 0, i, j, hi, hj => by
    rw [powO, unit_mul f hi, mul_unit f i hj]
  | m + 1, i, j, hi, hj => by
    rw [powO, ← mul_assoc n f]
    exact mul_congr (fun k hk => pow_comm f m i k hi hk) fun _ _ => rfl
/-- across -/
def acrO (f : Nat → Nat → Option Int) : Nat → Nat → Option Int := fun i j => f j i
theorem acr_mul (n : Nat) (f g : Nat → Nat → Option Int) : mulO n (acrO f) (acrO g) = acrO (mulO n g f) := by
  funext i j
  apply leO_ext
  intro z
  unfold mulO acrO
  rw [dot_le, dot_le]
  constructor <;> (intro q k hk; rw [joined_comm]; exact q k hk)
theorem acr_pow {n : Nat} (f : Nat → Nat → Option Int) : ∀ (m i j : Nat), i < n → j < n → powO n (acrO f) m i j = powO n f m j i
  | 0, i, j, _, _ => by
    simp only [powO, unitO]
    by_cases c : i = j
    · subst c; rfl
    · rw [if_neg c, if_neg fun e => c e.symm]
  | m + 1, i, j, hi, hj => by
    rw [powO, powO, pow_comm f m j i hj hi]
    have e := congrFun (congrFun (acr_mul n (powO n f m) f) i) j
    have e2 : mulO n (powO n (acrO f) m) (acrO f) i j = mulO n (acrO (powO n f m)) (acrO f) i j := mul_congr (fun k hk => acr_pow f m i k hi hk) fun _ _ => rfl
    rw [e2, e]
    rfl
end K42

set_option Elab.async false
set_option linter.all false
set_option maxRecDepth 100000
set_option maxHeartbeats 1000000
/-! K42x: the paper's row is high enough. -/
namespace K42
open PySem PySem.Spec PyProof.Rows L2 Dv
open Fx (fr Sm)
section
variable {n : Nat} {f : Nat → Nat → Option Int} {d num : Int}
def cw (f : Nat → Nat → Option Int) (d num : Int) (a b : Nat) : Int := (f a b).getD 0 * d - num
def sumP (f : Nat → Nat → Option Int) (d num : Int) (p : List Nat) : Int := ((pst p).map fun s => cw f d num s.1 s.2).sum
structure Walk (n : Nat) (f : Nat → Nat → Option Int) (p : List Nat) : Prop where
  ne : p ≠ []
  lt : ∀ k ∈ p, k < n
  st : ∀ s ∈ pst p, (f s.1 s.2).isSome = true
theorem sumP_app (a : List Nat) (m : Nat) (b : List Nat) : sumP f d num (a ++ m :: b) = sumP f d num (a ++ [m]) + sumP f d num (m :: b) := by
  unfold sumP
  rw [pst_app, List.map_append, List.sum_append]
theorem rlx_cons {r : Nat → Int} {i j : Nat} (l : List Nat) (v : Int) : rlx f d num r i (j :: l) v = rlx f d num r i l (rlx f d num r i [j] v) := rfl
theorem rlx_none {r : Nat → Int} {i j : Nat} (h : f i j = none) (v : Int) : rlx f d num r i [j] v = v := by simp [rlx, h]
theorem rlx_some {r : Nat → Int} {i j : Nat} {w : Int} (h : f i j = some w) (v : Int) : rlx f d num r i [j] v = max v (w * d - num + r j) := by simp [rlx, h]
theorem rlx_ge {r : Nat → Int} {i : Nat} : ∀ (l : List Nat) (v : Int), v ≤ rlx f d num r i l v
  | [], v => Int.le_refl _
  | j :: l, v => by
    rw [rlx_cons]
    have := rlx_ge (r := r) (i := i) l (rlx f d num r i [j] v)
    refine Int.le_trans ?_ this
    cases h : f i j with
    | none => rw [rlx_none h]; exact Int.le_refl _
    | some w => rw [rlx_some h]; omega
theorem rlx_edge {r : Nat → Int} {i j : Nat} {w : Int} (hw : f i j = some w) : ∀ (l : List Nat) (v : Int), j ∈ l → w * d - num + r j ≤ rlx f d num r i l v
  | k :: l, v, hj => by
    rw [rlx_cons]
    by_cases c : j ∈ l
    · exact rlx_edge hw l _ c
    · rcases List.mem_cons.mp hj with rfl | hj
      · have := rlx_ge (f := f) (d := d) (num := num) (r := r) (i := i) l (rlx f d num r i [j] v)
        rw [rlx_some hw] at this ⊢
        omega
      · exact absurd hj c
theorem rlx_is {r : Nat → Int} {i : Nat} : ∀ (l : List Nat) (v : Int), rlx f d num r i l v = v ∨ ∃ j ∈ l, ∃ w, f i j = some w ∧ rlx f d num r i l v = w * d - num + r j
  | [], v => .inl rfl
  | j :: l, v => by
    rw [rlx_cons]
    rcases rlx_is (r := r) (i := i) l (rlx f d num r i [j] v) with e | ⟨k, hk, w, h1, h2⟩
    · rw [e]
      cases hf : f i j with
      | none => exact .inl (rlx_none hf v)
      | some w =>
        rw [rlx_some hf]
        rcases Int.le_total v (w * d - num + r j) with c | c
        · exact .inr ⟨j, by simp, w, hf, Int.max_eq_right c⟩
        · exact .inl (Int.max_eq_left c)
    · exact .inr ⟨k, by simp [hk], w, h1, h2⟩
theorem itT_succ : ∀ (m : Nat) (r : Nat → Int), itT n f d num (m + 1) r = rndT n f d num (itT n f d num m r)
  | 0, r => rfl
  | m + 1, r => by
    show itT n f d num (m + 1) (rndT n f d num r) = _
    rw [itT_succ m]
    rfl
abbrev z0 : Nat → Int := fun _ => 0
theorem walk_le : ∀ (m : Nat) (i : Nat) (p : List Nat), Walk n f (i :: p) → p.length ≤ m → sumP f d num (i :: p) ≤ itT n f d num m z0 i
  | m, i, [], _, _ => by
    have e : sumP f d num [i] = 0 := by simp [sumP, pst]
    rw [e]
    have go : ∀ (m : Nat), 0 ≤ itT n f d num m z0 i := by
      intro m
      induction m with
      | zero => exact Int.le_refl _
      | succ m ih =>
        rw [itT_succ]
        exact Int.le_trans ih (rlx_ge _ _)
    exact go m
  | 0, i, j :: p, _, h => by simp at h
  | m + 1, i, j :: p, hw, h => by
    have hw2 : Walk n f (j :: p) := ⟨by simp, fun k hk => hw.lt k (by simp at hk ⊢; right; exact hk), fun s hs => hw.st s (by simp [pst]; exact .inr hs)⟩
    have ih := walk_le m j p hw2 (by simpa using h)
    have he : (f i j).isSome = true := hw.st (i, j) (by simp [pst])
    obtain ⟨w, hf⟩ := Option.isSome_iff_exists.mp he
    have e : sumP f d num (i :: j :: p) = (w * d - num) + sumP f d num (j :: p) := by
      simp only [sumP, pst, List.map_cons, List.sum_cons, cw]
      rw [show f i j = some w from hf]
      rfl
    rw [e, itT_succ]
    have := rlx_edge (d := d) (num := num) (r := itT n f d num m z0) hf (List.range n) (itT n f d num m z0 i) (by simpa using hw.lt j (by simp))
    unfold rndT
    omega
theorem walk_is : ∀ (m : Nat) (i : Nat), i < n → ∃ p, Walk n f (i :: p) ∧ p.length ≤ m ∧ sumP f d num (i :: p) = itT n f d num m z0 i
  | 0, i, hi => ⟨[], ⟨by simp, by simpa using hi, by simp [pst]⟩, by simp, by simp [sumP, pst, itT]⟩
  | m + 1, i, hi => by
    rw [itT_succ]
    rcases rlx_is (f := f) (d := d) (num := num) (r := itT n f d num m z0) (i := i) (List.range n) (itT n f d num m z0 i) with e | ⟨j, hj, w, hf, e⟩
    · obtain ⟨p, h1, h2, h3⟩ := walk_is m i hi
      exact ⟨p, h1, by omega, by unfold rndT; rw [e]; exact h3⟩
    · have hj' : j < n := by simpa using hj
      obtain ⟨p, h1, h2, h3⟩ := walk_is m j hj'
      refine ⟨j :: p, ⟨by simp, fun k hk => ?_, fun s hs => ?_⟩, by simpa using h2, ?_⟩
      · rcases List.mem_cons.mp hk with rfl | hk
        · exact hi
        · exact h1.lt k hk
      · simp only [pst, List.mem_cons] at hs
        rcases hs with rfl | hs
        · simp [hf]
        · exact h1.st s hs
      · unfold rndT
        rw [e, ← h3]
        simp only [sumP, pst, List.map_cons, List.sum_cons, cw]
        rw [hf]
        rfl
theorem dup : ∀ {p : List Nat}, ¬ p.Nodup → ∃ a x b r, p = a ++ x :: (b ++ x :: r) ∧ (x :: b).Nodup
  | [], h => absurd List.nodup_nil h
  | y :: t, h => by
    by_cases c : t.Nodup
    · have hy : y ∈ t := by
        rw [List.nodup_cons] at h
        exact Classical.byContradiction fun e => h ⟨e, c⟩
      obtain ⟨b, r, rfl⟩ := List.append_of_mem hy
      rw [List.nodup_append] at c
      exact ⟨[], y, b, r, rfl, List.nodup_cons.mpr ⟨fun e => c.2.2 y e y (by simp) rfl, c.1⟩⟩
    · obtain ⟨a, x, b, r, e, h2⟩ := dup c
      exact ⟨y :: a, x, b, r, by rw [e]; rfl, h2⟩
/-- no circle is better than the rate -/
def NoPos (n : Nat) (f : Nat → Nat → Option Int) (d num : Int) : Prop := ∀ x b, Walk n f (x :: b ++ [x]) → (x :: b).Nodup → sumP f d num (x :: b ++ [x]) ≤ 0
theorem short (hz : NoPos n f d num) : ∀ (k : Nat) (i : Nat) (p : List Nat), p.length ≤ k → Walk n f (i :: p) → ∃ q, Walk n f (i :: q) ∧ (i :: q).Nodup ∧ sumP f d num (i :: p) ≤ sumP f d num (i :: q)
  | k, i, p, hk, hw => by
    by_cases c : (i :: p).Nodup
    · exact ⟨p, hw, c, Int.le_refl _⟩
    · obtain ⟨a, x, b, r, e, hd⟩ := dup c
      have e3 : sumP f d num (i :: p) = sumP f d num (a ++ [x]) + (sumP f d num (x :: b ++ [x]) + sumP f d num (x :: r)) := by
        rw [e, sumP_app, show x :: (b ++ x :: r) = (x :: b) ++ x :: r from rfl, sumP_app (x :: b)]
      have st := hw.st
      have lt := hw.lt
      rw [e] at st lt
      rw [pst_app, show x :: (b ++ x :: r) = (x :: b) ++ x :: r from rfl, pst_app (x :: b)] at st
      have cyc : Walk n f (x :: b ++ [x]) := ⟨by simp, fun k hk => lt k (by simp at hk ⊢; rcases hk with rfl | hk | rfl <;> simp [*]), fun s hs => st s (List.mem_append_right _ (List.mem_append_left _ hs))⟩
      have le := hz x b cyc hd
      have e4 : sumP f d num (a ++ x :: r) = sumP f d num (a ++ [x]) + sumP f d num (x :: r) := sumP_app a x r
      obtain ⟨q, hq⟩ : ∃ q, a ++ x :: r = i :: q := by
        cases a with
        | nil =>
          simp at e
          exact ⟨r, by rw [e.1]; rfl⟩
        | cons y a =>
          simp at e
          exact ⟨a ++ x :: r, by rw [e.1]; rfl⟩
      have ql : q.length < p.length := by
        have a1 := congrArg List.length e
        have a2 := congrArg List.length hq
        simp at a1 a2
        omega
      have wq : Walk n f (i :: q) := by
        rw [← hq]
        refine ⟨by simp, fun k hk => lt k (by simp at hk ⊢; rcases hk with hk | rfl | hk <;> simp [*]), fun s hs => st s ?_⟩
        rw [pst_app] at hs
        simp at hs ⊢
        rcases hs with hs | hs <;> simp [hs]
      match k with
      | 0 => omega
      | k + 1 =>
        obtain ⟨q2, h1, h2, h3⟩ := short hz k i q (by omega) wq
        refine ⟨q2, h1, h2, ?_⟩
        rw [hq] at e4
        omega
/-- the row keeps every gap -/
theorem paper_high (hz : NoPos n f d num) {i j : Nat} {w : Int} (hi : i < n) (hj : j < n) (hf : f i j = some w) : w * d - num + itT n f d num (n + 1) z0 j ≤ itT n f d num (n + 1) z0 i := by
  have stay : itT n f d num (n + 1) z0 j ≤ itT n f d num n z0 j := by
    obtain ⟨p, h1, _, h3⟩ := walk_is (f := f) (d := d) (num := num) (n + 1) j hj
    obtain ⟨q, q1, q2, q3⟩ := short hz p.length j p (Nat.le_refl _) h1
    have ql := nodup_le (n := n) (start := 0) q2 fun k hk => ⟨Nat.zero_le _, q1.lt k hk⟩
    have := walk_le (d := d) (num := num) n j q q1 (by simp at ql; omega)
    omega
  have e := rlx_edge (d := d) (num := num) (r := itT n f d num n z0) hf (List.range n) (itT n f d num n z0 i) (by simpa using hj)
  rw [itT_succ n z0] at *
  have : itT n f d num (n + 1) z0 i = rlx f d num (itT n f d num n z0) i (List.range n) (itT n f d num n z0 i) := by rw [itT_succ]; rfl
  rw [itT_succ] at this
  omega
end
end K42

set_option Elab.async false
set_option linter.all false
set_option maxRecDepth 100000
set_option maxHeartbeats 1000000
/-! K42y: the paper made is taken. -/
namespace K42
open PySem PySem.Spec PyProof.Rows L2 Dv
open Fx (fr Sm)
theorem lt_div {a b : Int} {n w : Nat} (hn : 0 < n) (hw : 0 < w) (h : a * w < b * n) : Rat.divInt a n < Rat.divInt b w := by
  rw [Rat.divInt_eq_div, Rat.divInt_eq_div]
  have h1 : (0 : Rat) < ((n : Nat) : Int) := by exact_mod_cast (by omega : (0 : Int) < n)
  have h2 : (0 : Rat) < ((w : Nat) : Int) := by exact_mod_cast (by omega : (0 : Int) < w)
  have h3 : (a : Rat) * ((w : Nat) : Int) < (b : Rat) * ((n : Nat) : Int) := by exact_mod_cast h
  rw [Rat.div_lt_iff h1, Rat.div_def, Rat.mul_assoc, Rat.mul_comm (((w : Nat) : Int) : Rat)⁻¹, ← Rat.mul_assoc, ← Rat.div_def, Rat.lt_div_iff h2]
  exact h3
theorem nopos {n : Nat} {f : Nat → Nat → Option Int} (hn : n ≤ 6) {B : Rat} (hm : IsMax ((circF (edge (matO n f)) n).map (meanF (wt (matO n f)))) (some B)) : NoPos n f B.den B.num := by
  intro x b hw hd
  have lt : ∀ k ∈ x :: b, k < n := fun k hk => hw.lt k (by simp at hk ⊢; rcases hk with rfl | hk <;> simp [*])
  have inn : ∀ p ∈ steps (x :: b), p.1 < n ∧ p.2 < n := fun p hp => by
    constructor
    · have : p.1 ∈ (steps (x :: b)).map (·.1) := List.mem_map.mpr ⟨p, hp, rfl⟩
      rw [steps_fst] at this
      exact lt _ this
    · have : p.2 ∈ (steps (x :: b)).map (·.2) := List.mem_map.mpr ⟨p, hp, rfl⟩
      exact lt _ ((steps_snd (x :: b)).mem_iff.mp this)
  have cyc : Cyc (edge (matO n f)) n (x :: b) := ⟨by simp, hd, lt, fun p hp => by
    rw [edge_mat]
    have := hw.st p (by rw [steps_pst] at hp; exact hp)
    simp [(inn p hp).1, (inn p hp).2, this]⟩
  have e1 : sumP f B.den B.num (x :: b ++ [x]) = B.den * sumC (wt (matO n f)) (x :: b) - (x :: b).length * B.num := by
    unfold sumP
    rw [← steps_pst]
    have e2 : ((steps (x :: b)).map fun s => cw f B.den B.num s.1 s.2) = (steps (x :: b)).map fun s => (B.den : Int) * wt (matO n f) s.1 s.2 + (-B.num) := by
      apply List.map_congr_left
      intro p hp
      rw [wt_mat (inn p hp).1 (inn p hp).2]
      unfold cw
      rw [Int.mul_comm]
      omega
    rw [e2, sum_map_add, sum_map_mul, sum_map_const, steps_len, Int.mul_neg]
    unfold sumC
    omega
  obtain ⟨a, c, e, hc⟩ := cyc_turn cyc
  have le := hm.2 (meanF (wt (matO n f)) (c ++ a)) (List.mem_map.mpr ⟨c ++ a, (circF_mem hn).mpr hc, rfl⟩)
  rw [mean_turn, ← e] at le
  rw [e1]
  have hden := B.den_nz
  rcases Int.lt_or_le 0 ((B.den : Int) * sumC (wt (matO n f)) (x :: b) - (x :: b).length * B.num) with k | k
  · exfalso
    have := lt_div (a := B.num) (b := sumC (wt (matO n f)) (x :: b)) (n := B.den) (w := (x :: b).length) (by omega) (by simp) (by rw [Int.mul_comm B.num, Int.mul_comm (sumC _ _)]; omega)
    rw [Rat.num_divInt_den] at this
    unfold meanF at le
    grind
  · exact k
/-- in fractions: no gap is missed -/
theorem paper_gap {n : Nat} {f : Nat → Nat → Option Int} (hn : n ≤ 6) {B : Rat} (hm : IsMax ((circF (edge (matO n f)) n).map (meanF (wt (matO n f)))) (some B)) {i j : Nat} {w : Int} (hi : i < n) (hj : j < n) (hf : f i j = some w) :
    (w : Rat) + Rat.divInt (itT n f B.den B.num (n + 1) z0 j) B.den - B ≤ Rat.divInt (itT n f B.den B.num (n + 1) z0 i) B.den := by
  have h := paper_high (nopos hn hm) hi hj hf
  have hden := B.den_nz
  generalize itT n f B.den B.num (n + 1) z0 i = Ri at *
  generalize itT n f B.den B.num (n + 1) z0 j = Rj at *
  have hd : (0 : Rat) < ((B.den : Nat) : Int) := by exact_mod_cast (by omega : (0 : Int) < B.den)
  have h3 : (w : Rat) * ((B.den : Nat) : Int) - (B.num : Rat) + (Rj : Rat) ≤ (Ri : Rat) := by exact_mod_cast h
  have eB : B * ((B.den : Nat) : Int) = (B.num : Rat) := by
    have : B = (B.num : Rat) / ((B.den : Int) : Rat) := by rw [← Rat.divInt_eq_div, Rat.num_divInt_den]
    grind
  rw [Rat.divInt_eq_div, Rat.divInt_eq_div]
  apply Rat.not_lt.mp
  intro k
  rw [Rat.div_lt_iff hd] at k
  generalize (((B.den : Nat) : Int) : Rat) = D at *
  have e5 : ((w : Rat) + (Rj : Rat) / D - B) * D = (w : Rat) * D + (Rj : Rat) - B * D := by grind
  rw [e5, eB] at k
  grind
end K42

set_option Elab.async false
set_option linter.all false
set_option maxRecDepth 100000
set_option maxHeartbeats 1000000
/-! K42aa: sorted rows. -/
namespace K42
open PySem PySem.Spec PyProof.Rows L2 Dv
open Fx (fr Sm)
theorem le_iT (a b : List Int) : PySem.W.dataLe false id (iT a) (iT b) = decide (a ≤ b) := by
  show (!PySem.W.dataLt (.tuple (iL b)) (.tuple (iL a))) = _
  rw [PySem.W.dataLt_tuple]
  show (!PySem.W.rowLt (b.map .int) (a.map .int)) = _
  rw [PySem.W.dataLt_ints]
  by_cases h : b < a
  · have : ¬ a ≤ b := fun q => List.not_lt.mpr q h
    simp [h, this]
  · have : a ≤ b := List.not_lt.mp h
    simp [h, this]
theorem sort_iT (l : List (List Int)) : sortD (l.map iT) = (l.mergeSort fun a b => decide (a ≤ b)).map iT := by
  unfold sortD
  rw [List.map_mergeSort (r := fun a b => decide (a ≤ b)) (s := PySem.W.dataLe false id) (f := iT) (l := l) (fun a _ b _ => (le_iT a b).symm)]
theorem sorted_le (l : List (List Int)) : List.Pairwise (fun a b => decide (a ≤ b) = true) (l.mergeSort fun a b => decide (a ≤ b)) :=
  List.pairwise_mergeSort (le := fun a b : List Int => decide (a ≤ b)) (fun a b c h1 h2 => decide_eq_true (List.le_trans (of_decide_eq_true h1) (of_decide_eq_true h2))) (fun a b => by
    rcases List.le_total a b with q | q <;> simp [q]) l
theorem sort_same {l m : List (List Int)} (h : l.Perm m) : sortD (l.map iT) = sortD (m.map iT) := by
  rw [sort_iT, sort_iT]
  congr 1
  refine List.Perm.eq_of_pairwise (le := fun a b => decide (a ≤ b) = true) (fun a b _ _ h1 h2 => List.le_antisymm (of_decide_eq_true h1) (of_decide_eq_true h2)) ?_ ?_ (((List.mergeSort_perm l _).trans h).trans (List.mergeSort_perm m _).symm)
  · exact sorted_le l
  · exact sorted_le m
theorem nT_iT (c : List Nat) : nT c = iT (c.map fun (k : Nat) => (k : Int)) := by simp
/-- circles of equal members, sorted, are equal -/
theorem sort_circles {l m : List (List Nat)} (h : l.Perm m) : sortD (l.map nT) = sortD (m.map nT) := by
  have e : ∀ l : List (List Nat), l.map nT = (l.map fun c => c.map fun (k : Nat) => (k : Int)).map iT := fun l => by
    rw [List.map_map]
    apply List.map_congr_left
    intro c _
    exact nT_iT c
  rw [e, e]
  exact sort_same (h.map _)
theorem sort_frs {l m : List Rat} (h : l.Perm m) : sortD (l.map fr) = sortD (m.map fr) := by
  have e : ∀ l : List Rat, l.map fr = (l.map fun q => [q.num, (q.den : Int)]).map iT := fun l => by
    rw [List.map_map]
    rfl
  rw [e, e]
  exact sort_same (h.map _)
end K42

set_option Elab.async false
set_option linter.all false
set_option maxRecDepth 100000
set_option maxHeartbeats 1000000
/-! K42bb: circles of the line across. -/
namespace K42
open PySem PySem.Spec PyProof.Rows L2 Dv
open Fx (fr Sm)
/-- a circle gone the other way, begun at the same place -/
def rho : List Nat → List Nat
  | [] => []
  | x :: t => x :: t.reverse
theorem rho_rho (c : List Nat) : rho (rho c) = c := by cases c <;> simp [rho]
theorem pst_rev : ∀ (l : List Nat), pst l.reverse = ((pst l).map fun p => (p.2, p.1)).reverse
  | [] => rfl
  | [x] => rfl
  | x :: y :: t => by
    have ih := pst_rev (y :: t)
    simp only [pst, List.map_cons, List.reverse_cons] at ih ⊢
    rw [List.append_assoc, show [y] ++ [x] = y :: [x] from rfl, pst_app]
    rw [ih]
    simp [pst]
theorem steps_rho (c : List Nat) : steps (rho c) = ((steps c).map fun p => (p.2, p.1)).reverse := by
  cases c with
  | nil => rfl
  | cons x t =>
    have := pst_rev (x :: t ++ [x])
    rw [rho, steps_pst, steps_pst, ← this]
    simp
theorem rho_perm (c : List Nat) : (rho c).Perm c := by
  cases c with
  | nil => exact .refl _
  | cons x t => exact (List.reverse_perm t).cons x
theorem circ_rho {n : Nat} {f : Nat → Nat → Option Int} {c : List Nat} (h : Circ (edge (matO n f)) n c) : Circ (edge (matO n (acrO f))) n (rho c) := by
  have cy := circ_cyc h
  obtain ⟨s, w, _⟩ := h
  have cy2 : Cyc (edge (matO n (acrO f))) n (rho c) := ⟨fun e => cy.ne (by have := (rho_perm c).length_eq; rw [e] at this; exact List.length_eq_zero_iff.mp this.symm), (rho_perm c).nodup_iff.mpr cy.nd, fun k hk => cy.lt k ((rho_perm c).mem_iff.mp hk), fun p hp => by
    rw [steps_rho, List.mem_reverse, List.mem_map] at hp
    obtain ⟨q, hq, rfl⟩ := hp
    have := cy.st q hq
    rw [edge_mat] at this ⊢
    simp at this ⊢
    exact ⟨⟨this.1.2, this.1.1⟩, this.2⟩⟩
  cases c with
  | nil => exact absurd rfl cy.ne
  | cons x t =>
    have hx := w.hd
    simp at hx
    subst hx
    exact cyc_circ cy2 fun k hk => (w.lt k (by simp at hk ⊢; right; exact hk)).1
theorem sum_rho {n : Nat} {f : Nat → Nat → Option Int} {c : List Nat} (h : Circ (edge (matO n f)) n c) : sumC (wt (matO n (acrO f))) (rho c) = sumC (wt (matO n f)) c := by
  have st := step_edge h
  unfold sumC
  rw [steps_rho]
  have e := perm_sum ((List.reverse_perm ((steps c).map fun p => (p.2, p.1))).map fun p => wt (matO n (acrO f)) p.1 p.2)
  rw [e, List.map_map]
  congr 1
  apply List.map_congr_left
  intro p hp
  obtain ⟨_, a, b⟩ := st p hp
  simp only [Function.comp_apply]
  rw [wt_mat b a, wt_mat a b]
  rfl
theorem mean_rho {n : Nat} {f : Nat → Nat → Option Int} {c : List Nat} (h : Circ (edge (matO n f)) n c) : meanF (wt (matO n (acrO f))) (rho c) = meanF (wt (matO n f)) c := by
  unfold meanF
  rw [sum_rho h, (rho_perm c).length_eq]
/-- lists without doubles with the same members -/
theorem perm_of {α : Type} {l m : List α} (h1 : l.Nodup) (h2 : m.Nodup) (h : ∀ a, a ∈ l ↔ a ∈ m) : l.Perm m := (List.perm_ext_iff_of_nodup h1 h2).mpr h
theorem circles_rho {n : Nat} (hn : n ≤ 6) (f : Nat → Nat → Option Int) : (circF (edge (matO n (acrO f))) n).Perm ((circF (edge (matO n f)) n).map rho) := by
  refine perm_of (circF_nodup hn) ?_ fun c => ?_
  · rw [List.nodup_iff_pairwise_ne, List.pairwise_map]
    exact (circF_nodup hn).imp fun {a b} hab e => hab (by rw [← rho_rho a, e, rho_rho])
  · rw [circF_mem hn, List.mem_map]
    constructor
    · intro h
      have := circ_rho h
      exact ⟨rho c, (circF_mem hn).mpr this, rho_rho c⟩
    · rintro ⟨d, hd, rfl⟩
      exact circ_rho ((circF_mem hn).mp hd)
/-- the means are those of the line itself -/
theorem means_rho {n : Nat} (hn : n ≤ 6) (f : Nat → Nat → Option Int) : ((circF (edge (matO n (acrO f))) n).map (meanF (wt (matO n (acrO f))))).Perm ((circF (edge (matO n f)) n).map (meanF (wt (matO n f)))) := by
  refine ((circles_rho hn f).map _).trans ?_
  rw [List.map_map]
  have : (circF (edge (matO n f)) n).map (meanF (wt (matO n (acrO f))) ∘ rho) = (circF (edge (matO n f)) n).map (meanF (wt (matO n f))) := by
    apply List.map_congr_left
    intro c hc
    exact mean_rho ((circF_mem hn).mp hc)
  rw [this]
end K42

set_option Elab.async false
set_option linter.all false
set_option maxRecDepth 100000
set_option maxHeartbeats 1000000
/-! K42cc: regimes under changes. -/
namespace K42
open PySem PySem.Spec PyProof.Rows L2 Dv
open Fx (fr Sm)
theorem reg_congr {n : Nat} {f f' : Nat → Nat → Option Int} {B B' : Rat} (h : ∀ m r, r ≤ m → tst n f B m r = tst n f' B' m r) : regF n f B = regF n f' B' := by
  unfold regF
  have e : ∀ m, (List.range' 1 m).find? (tst n f B m) = (List.range' 1 m).find? (tst n f' B' m) := fun m => by
    have go : ∀ l : List Nat, (∀ r ∈ l, r ≤ m) → l.find? (tst n f B m) = l.find? (tst n f' B' m) := by
      intro l
      induction l with
      | nil => intro _; rfl
      | cons r l ih =>
        intro hl
        rw [List.find?_cons, List.find?_cons, h m r (hl r (by simp)), ih fun x hx => hl x (by simp [hx])]
    exact go _ fun r hr => by
      rw [List.mem_range'_1] at hr
      omega
  simp only [e]
/-- the test, place by place -/
theorem tst_iff {n : Nat} {f : Nat → Nat → Option Int} {B : Rat} {m r : Nat} : tst n f B m r = true ↔ (B * ((r : Int) : Rat)).den = 1 ∧ ∀ i j, i < n → j < n → moveO (powO n f (m - r)) (B * ((r : Int) : Rat)).num i j = powO n f m i j := by
  unfold tst
  rw [Bool.and_eq_true, decide_eq_true_eq, decide_eq_true_eq]
  exact and_congr_right fun _ => ⟨fun e => matO_inj e, fun e => matO_ext e⟩
theorem bool_iff {a b : Bool} (h : a = true ↔ b = true) : a = b := by
  cases a <;> cases b <;> simp_all
theorem reg_pot (n : Nat) (g : Nat → Int) (f : Nat → Nat → Option Int) (B : Rat) : regF n (potO g f) B = regF n f B := by
  refine reg_congr fun m r _ => bool_iff ?_
  rw [tst_iff, tst_iff, pot_pow, pot_pow]
  refine and_congr_right fun _ => forall_congr' fun i => forall_congr' fun j => imp_congr_right fun _ => imp_congr_right fun _ => ?_
  simp only [moveO, potO]
  generalize (B * ((r : Int) : Rat)).num = k
  cases powO n f (m - r) i j <;> cases powO n f m i j <;> simp [joinedO]
  omega
theorem reg_acr (n : Nat) (f : Nat → Nat → Option Int) (B : Rat) : regF n (acrO f) B = regF n f B := by
  refine reg_congr fun m r _ => bool_iff ?_
  rw [tst_iff, tst_iff]
  refine and_congr_right fun _ => ⟨fun h i j hi hj => ?_, fun h i j hi hj => ?_⟩
  · have := h j i hj hi
    simp only [moveO] at this ⊢
    rw [acr_pow f _ j i hj hi, acr_pow f _ j i hj hi] at this
    exact this
  · have := h j i hj hi
    simp only [moveO] at this ⊢
    rw [acr_pow f _ i j hi hj, acr_pow f _ i j hi hj]
    exact this
theorem move_pow (n : Nat) (f : Nat → Nat → Option Int) (b : Int) : ∀ m i j, powO n (moveO f b) m i j = moveO (powO n f m) (m * b) i j
  | 0, i, j => by
    simp only [powO, unitO, moveO]
    split <;> simp [joinedO]
  | m + 1, i, j => by
    have e : ((m + 1 : Nat) : Int) * b = m * b + b := by
      rw [show ((m + 1 : Nat) : Int) = (m : Int) + 1 by omega, Int.add_mul, Int.one_mul]
    have := dot_add n (powO n f m i) (fun k => f k j) (powO n (moveO f b) m i) (fun k => moveO f b k j) (((m + 1 : Nat) : Int) * b) fun k hk => by
      rw [move_pow n f b m i k, e]
      simp only [moveO]
      cases powO n f m i k <;> cases f k j <;> simp [joinedO]
      omega
    show dotO n _ _ = joinedO (dotO n _ _) _
    rw [this]
    cases dotO n (powO n f m i) fun k => f k j <;> rfl
theorem den_one {q : Rat} (h : q.den = 1) : q = (q.num : Rat) := by
  have := Rat.num_divInt_den q
  rw [h, Rat.divInt_eq_div] at this
  rw [← this]
  rw [Rat.div_def, show (((1 : Nat) : Int) : Rat)⁻¹ = 1 by decide +kernel, Rat.mul_one, Rat.num_intCast]
theorem reg_move (n : Nat) (f : Nat → Nat → Option Int) (B : Rat) (b : Int) : regF n (moveO f b) (B + (b : Rat)) = regF n f B := by
  refine reg_congr fun m r hr => bool_iff ?_
  rw [tst_iff, tst_iff]
  have eq : (B + (b : Rat)) * ((r : Int) : Rat) = B * ((r : Int) : Rat) + ((b * r : Int) : Rat) := by
    rw [Rat.intCast_mul]
    grind
  rw [eq]
  have key : (B * ((r : Int) : Rat)).den = 1 → (B * ((r : Int) : Rat) + ((b * r : Int) : Rat)).den = 1 ∧ (B * ((r : Int) : Rat) + ((b * r : Int) : Rat)).num = (B * ((r : Int) : Rat)).num + b * r := fun h => by
    have e := den_one h
    rw [e, ← Rat.intCast_add]
    exact ⟨Rat.den_intCast _, by rw [Rat.num_intCast, Rat.num_intCast]⟩
  have back : (B * ((r : Int) : Rat) + ((b * r : Int) : Rat)).den = 1 → (B * ((r : Int) : Rat)).den = 1 := fun h => by
    have e := den_one h
    have e2 : B * ((r : Int) : Rat) = (((B * ((r : Int) : Rat) + ((b * r : Int) : Rat)).num - b * r : Int) : Rat) := by
      rw [Rat.intCast_sub, ← e]
      grind
    rw [e2]
    exact Rat.den_intCast _
  have mr : (((m - r : Nat) : Int)) * b + b * r = m * b := by
    rw [Int.mul_comm b, ← Int.add_mul]
    congr 1
    omega
  constructor
  · rintro ⟨h1, h2⟩
    have h1' := back h1
    obtain ⟨_, hk⟩ := key h1'
    refine ⟨h1', fun i j hi hj => ?_⟩
    have := h2 i j hi hj
    rw [hk] at this
    simp only [moveO] at this ⊢
    rw [move_pow, move_pow] at this
    simp only [moveO] at this
    generalize (B * ((r : Int) : Rat)).num = k at *
    cases h3 : powO n f (m - r) i j <;> cases h4 : powO n f m i j <;> rw [h3, h4] at this <;> simp [joinedO] at this ⊢
    omega
  · rintro ⟨h1, h2⟩
    obtain ⟨hd, hk⟩ := key h1
    refine ⟨hd, fun i j hi hj => ?_⟩
    have := h2 i j hi hj
    rw [hk]
    simp only [moveO] at this ⊢
    rw [move_pow, move_pow]
    simp only [moveO]
    generalize (B * ((r : Int) : Rat)).num = k at *
    cases h3 : powO n f (m - r) i j <;> cases h4 : powO n f m i j <;> rw [h3, h4] at this <;> simp [joinedO] at this ⊢
    omega
end K42

set_option Elab.async false
set_option linter.all false
set_option maxRecDepth 100000
set_option maxHeartbeats 1000000
/-! K42dd: all multiplied; joined lines under changes. -/
namespace K42
open PySem PySem.Spec PyProof.Rows L2 Dv
open Fx (fr Sm)
def facO (k : Int) (f : Nat → Nat → Option Int) : Nat → Nat → Option Int := fun i j => (f i j).map fun a => k * a
theorem max_mul {k a b : Int} (hk : 0 ≤ k) : max (k * a) (k * b) = k * max a b := by
  rcases Int.le_total a b with h | h
  · rw [Int.max_eq_right h, Int.max_eq_right (Int.mul_le_mul_of_nonneg_left h hk)]
  · rw [Int.max_eq_left h, Int.max_eq_left (Int.mul_le_mul_of_nonneg_left h hk)]
theorem later_mul {k : Int} (hk : 0 ≤ k) (a b : Option Int) : (laterO a b).map (fun x => k * x) = laterO (a.map fun x => k * x) (b.map fun x => k * x) := by
  cases a <;> cases b <;> simp [laterO]
  rw [max_mul hk]
theorem dot_mul {k : Int} (hk : 0 ≤ k) (n : Nat) (f g f' g' : Nat → Option Int) (h : ∀ i, i < n → joinedO (f' i) (g' i) = (joinedO (f i) (g i)).map fun x => k * x) : dotO n f' g' = (dotO n f g).map fun x => k * x := by
  unfold dotO
  have go : ∀ (l : List Nat) (b b' : Option Int), (∀ i ∈ l, i < n) → b' = b.map (fun x => k * x) → l.foldl (fun b k => laterO b (joinedO (f' k) (g' k))) b' = (l.foldl (fun b k => laterO b (joinedO (f k) (g k))) b).map fun x => k * x := by
    intro l
    induction l with
    | nil => exact fun b b' _ e => e
    | cons i l ih =>
      intro b b' hl e
      simp only [List.foldl_cons]
      refine ih _ _ (fun x hx => hl x (by simp [hx])) ?_
      rw [e, h i (hl i (by simp)), later_mul hk]
  exact go (List.range n) none none (fun i hi => by simpa using hi) rfl
theorem fac_pow {k : Int} (hk : 0 ≤ k) (n : Nat) (f : Nat → Nat → Option Int) : ∀ m i j, powO n (facO k f) m i j = facO k (powO n f m) i j
  | 0, i, j => by
    simp only [powO, unitO, facO]
    split <;> simp
  | m + 1, i, j => by
    show dotO n _ _ = (dotO n _ _).map _
    refine dot_mul hk n _ _ _ _ fun l hl => ?_
    rw [fac_pow hk n f m i l]
    simp only [facO]
    cases powO n f m i l <;> cases f l j <;> simp [joinedO, Int.mul_add]
theorem fac_edge (n : Nat) (k : Int) (f : Nat → Nat → Option Int) : edge (matO n (facO k f)) = edge (matO n f) := edge_same fun i j _ _ => by simp [facO]
theorem fac_sum {n : Nat} {f : Nat → Nat → Option Int} {k : Int} {c : List Nat} (h : Circ (edge (matO n f)) n c) : sumC (wt (matO n (facO k f))) c = k * sumC (wt (matO n f)) c := by
  have st := step_edge h
  have e1 : sumC (wt (matO n (facO k f))) c = sumC (fun x y => k * wt (matO n f) x y) c := sumC_congr fun p hp => by
    obtain ⟨a, q, d⟩ := st p hp
    rw [wt_mat q d, wt_mat q d]
    rw [edge_mat] at a
    simp [q, d] at a
    obtain ⟨v, hv⟩ := Option.isSome_iff_exists.mp a
    simp [facO, hv]
  rw [e1]
  unfold sumC
  rw [sum_map_mul]
theorem fac_mean {n : Nat} {f : Nat → Nat → Option Int} {k : Int} {c : List Nat} (h : Circ (edge (matO n f)) n c) : meanF (wt (matO n (facO k f))) c = (k : Rat) * meanF (wt (matO n f)) c := by
  unfold meanF
  rw [fac_sum h, Rat.divInt_eq_div, Rat.divInt_eq_div, Rat.intCast_mul]
  grind
theorem move_mean {n : Nat} {f : Nat → Nat → Option Int} {b : Int} {c : List Nat} (h : Circ (edge (matO n f)) n c) : meanF (wt (matO n (moveO f b))) c = meanF (wt (matO n f)) c + (b : Rat) := by
  have hl : c.length ≠ 0 := by
    obtain ⟨s, w, _⟩ := h
    have := List.length_pos_iff.mpr w.ne
    omega
  have hr : (((c.length : Nat) : Int) : Rat) ≠ 0 := by
    intro e
    have : ((c.length : Nat) : Int) = 0 := by exact_mod_cast e
    omega
  unfold meanF
  rw [move_sum h, Rat.divInt_eq_div, Rat.divInt_eq_div, Rat.intCast_add, Rat.intCast_mul]
  grind
/-! ### joined -/
theorem far_out {n : Nat} {e : Nat → Nat → Bool} : ∀ (k i j : Nat), k ≤ n → farF n e k i j = true → ∃ l, e i l = true
  | 0, i, j, _, h => ⟨j, h⟩
  | k + 1, i, j, hk, h => by
    simp only [farF, Bool.or_eq_true, Bool.and_eq_true] at h
    rcases h with h | h
    · exact far_out k i j (by omega) h
    · exact far_out k i k (by omega) h.1
theorem far_acr (n : Nat) (e : Nat → Nat → Bool) : ∀ (k i j : Nat), farF n (fun a b => e b a) k i j = farF n e k j i
  | 0, _, _ => rfl
  | k + 1, i, j => by
    simp only [farF, far_acr n e k]
    rw [Bool.and_comm]
theorem joined_acr (n : Nat) (e : Nat → Nat → Bool) : joinedF n (fun a b => e b a) = joinedF n e := by
  apply bool_iff
  unfold joinedF
  simp only [List.all_eq_true, List.mem_range, far_acr]
  exact ⟨fun h i hi j hj => h j hj i hi, fun h i hi j hj => h j hj i hi⟩
end K42

set_option Elab.async false
set_option linter.all false
set_option maxRecDepth 100000
set_option maxHeartbeats 1000000
/-! K42ee: regimes of lines multiplied. -/
namespace K42
open PySem PySem.Spec PyProof.Rows L2 Dv
open Fx (fr Sm)
theorem far_out' {n : Nat} {e : Nat → Nat → Bool} : ∀ (k i j : Nat), k ≤ n → j < n → farF n e k i j = true → ∃ l, l < n ∧ e i l = true
  | 0, i, j, _, hj, h => ⟨j, hj, h⟩
  | k + 1, i, j, hk, hj, h => by
    simp only [farF, Bool.or_eq_true, Bool.and_eq_true] at h
    rcases h with h | h
    · exact far_out' k i j (by omega) hj h
    · exact far_out' k i k (by omega) (by omega) h.1
theorem joined_out {n : Nat} {e : Nat → Nat → Bool} (h : joinedF n e = true) {i : Nat} (hi : i < n) : ∃ l, l < n ∧ e i l = true := by
  unfold joinedF at h
  simp only [List.all_eq_true, List.mem_range] at h
  exact far_out' n i i (Nat.le_refl _) hi (h i hi i hi)
theorem pow_some {n : Nat} {f : Nat → Nat → Option Int} (h : joinedF n (fun i j => (f i j).isSome) = true) : ∀ (m i : Nat), i < n → ∃ j, j < n ∧ ∃ v, powO n f m i j = some v
  | 0, i, hi => ⟨i, hi, 0, by simp [powO, unitO]⟩
  | m + 1, i, hi => by
    obtain ⟨j, hj, v, hv⟩ := pow_some h m i hi
    obtain ⟨l, hl, e⟩ := joined_out h hj
    obtain ⟨w, hw⟩ := Option.isSome_iff_exists.mp e
    refine ⟨l, hl, ?_⟩
    have := (dot_le (n := n) (f := powO n f m i) (g := fun k => f k l) (z := dotO n (powO n f m i) fun k => f k l)).mp (leO_refl _) j hj
    rw [hv, hw] at this
    show ∃ v, dotO n _ _ = some v
    cases hd : dotO n (powO n f m i) fun k => f k l with
    | none =>
      rw [hd] at this
      simp [joinedO, leO] at this
    | some z => exact ⟨z, rfl⟩
theorem reg_fac {n : Nat} (hn : 0 < n) {f : Nat → Nat → Option Int} (h : joinedF n (fun i j => (f i j).isSome) = true) (B : Rat) {k : Int} (hk : 0 < k) : regF n (facO k f) ((k : Rat) * B) = regF n f B := by
  refine reg_congr fun m r hr => bool_iff ?_
  rw [tst_iff, tst_iff]
  have hk0 : (k : Rat) ≠ 0 := by
    intro e
    have : k = 0 := by exact_mod_cast e
    omega
  have eq : (k : Rat) * B * ((r : Int) : Rat) = (k : Rat) * (B * ((r : Int) : Rat)) := by grind
  rw [eq]
  generalize hq : B * ((r : Int) : Rat) = q
  constructor
  · rintro ⟨h1, h2⟩
    have e1 := den_one h1
    generalize ((k : Rat) * q).num = N at *
    obtain ⟨j, hj, a, ha⟩ := pow_some h (m - r) 0 hn
    have h3 := h2 0 j hn hj
    simp only [moveO] at h3
    rw [fac_pow (by omega), fac_pow (by omega)] at h3
    simp only [facO, ha, Option.map_some, joinedO] at h3
    cases hb : powO n f m 0 j with
    | none =>
      rw [hb] at h3
      cases h3
    | some b =>
      rw [hb] at h3
      simp only [Option.map_some, Option.some.injEq] at h3
      have hN : N = k * (b - a) := by rw [Int.mul_sub]; omega
      have eqq : q = ((b - a : Int) : Rat) := by
        rw [hN, Rat.intCast_mul] at e1
        grind
      have hd : q.den = 1 := by rw [eqq]; exact Rat.den_intCast _
      have hnum : q.num = b - a := by rw [eqq]; exact Rat.num_intCast _
      refine ⟨hd, fun i l hi hl => ?_⟩
      have h4 := h2 i l hi hl
      simp only [moveO] at h4 ⊢
      rw [fac_pow (by omega), fac_pow (by omega)] at h4
      simp only [facO] at h4
      rw [hnum]
      generalize b - a = c at *
      cases h5 : powO n f (m - r) i l <;> cases h6 : powO n f m i l <;> rw [h5, h6] at h4 <;> simp [joinedO] at h4 ⊢
      rename_i x y
      rw [hN, ← Int.mul_add] at h4
      exact Int.eq_of_mul_eq_mul_left (by omega) h4
  · rintro ⟨h1, h2⟩
    have e1 := den_one h1
    have e2 : (k : Rat) * q = ((k * q.num : Int) : Rat) := by
      rw [Rat.intCast_mul, ← e1]
    have hd : ((k : Rat) * q).den = 1 := by rw [e2]; exact Rat.den_intCast _
    have hnum : ((k : Rat) * q).num = k * q.num := by rw [e2]; exact Rat.num_intCast _
    refine ⟨hd, fun i l hi hl => ?_⟩
    have h4 := h2 i l hi hl
    rw [hnum]
    simp only [moveO] at h4 ⊢
    rw [fac_pow (by omega), fac_pow (by omega)]
    simp only [facO]
    generalize q.num = c at *
    cases h5 : powO n f (m - r) i l <;> cases h6 : powO n f m i l <;> rw [h5, h6] at h4 <;> simp [joinedO] at h4 ⊢
    rw [← h4, Int.mul_add]
end K42

set_option Elab.async false
set_option linter.all false
set_option maxRecDepth 100000
set_option maxHeartbeats 1000000
/-! K42ff: queues later, multiplied. -/
namespace K42
open PySem PySem.Spec PyProof.Rows L2 Dv
open Fx (fr Sm)
theorem row_add (by_ : Int) : ∀ (ts ps : List Int) (now : Int), rowF ts (ps.map (· + by_)) (now + by_) = (rowF ts ps now).map (· + by_)
  | [], _, _ => by simp [rowF]
  | t :: ts, [], now => by
    have := row_add by_ ts [] (now + t)
    simp only [List.map_nil] at this
    simp only [rowF, List.map_nil, List.map_cons]
    rw [show now + by_ + t = now + t + by_ by omega, this]
  | t :: ts, p :: ps, now => by
    have := row_add by_ ts ps (max now p + t)
    simp only [rowF, List.map_cons]
    rw [show max (now + by_) (p + by_) + t = max now p + t + by_ by omega, this]
theorem last_getI {l : List Int} (h : l ≠ []) : l.getLastD 0 = l.getLast h := by
  rw [List.getLastD_eq_getLast?, List.getLast?_eq_some_getLast h]
  rfl
theorem getLastD_map (g : Int → Int) (l : List Int) (hl : l ≠ []) : (l.map g).getLastD 0 = g (l.getLastD 0) := by
  have h1 : l.map g ≠ [] := by simpa using hl
  rw [last_getI h1, last_getI hl]
  simp
theorem row_mul {k : Int} (hk : 0 ≤ k) : ∀ (ts ps : List Int) (now : Int), rowF (ts.map (k * ·)) (ps.map (k * ·)) (k * now) = (rowF ts ps now).map (k * ·)
  | [], _, _ => by simp [rowF]
  | t :: ts, [], now => by
    have := row_mul hk ts [] (now + t)
    simp only [List.map_nil, Int.mul_add] at this
    simp only [rowF, List.map_nil, List.map_cons, Int.mul_add]
    rw [this]
  | t :: ts, p :: ps, now => by
    have := row_mul hk ts ps (max now p + t)
    simp only [Int.mul_add] at this
    simp only [rowF, List.map_cons]
    rw [max_mul hk, Int.mul_add, this]
theorem step_gen {times times' : List Int} {w : Nat} {back back' : Int} (g : Int → Int) (hrow : ∀ ps now, rowF times' (ps.map g) (g now) = (rowF times ps now).map g) (hst : ∀ a b, max (g a) (g b + back') = g (max a (b + back))) (h0 : times ≠ []) {found : List (List Int)} (hW : Wide times.length found) (x : Int) (hw : 1 ≤ w) :
    stepF times' w back' (found.map (·.map g)) (g x) = (stepF times w back found x).map (·.map g) := by
  unfold stepF
  rw [List.map_append, List.map_cons, List.map_nil]
  congr 2
  have hp : prevF (found.map (·.map g)) = (prevF found).map g := by
    unfold prevF
    rw [List.length_map]
    split
    · rfl
    · rw [List.getElem?_map]
      cases found[found.length - 1]? <;> rfl
  have hs : startF w back' (found.map (·.map g)) (g x) = g (startF w back found x) := by
    unfold startF
    rw [List.length_map]
    split
    · rename_i c
      have hl : found.length - w < found.length := by omega
      rw [List.getElem?_map, List.getElem?_eq_getElem hl]
      simp only [Option.map_some, Option.getD_some]
      rw [getLastD_map g _ (by
        have := hW _ (List.getElem_mem hl)
        intro e
        rw [e] at this
        exact h0 (List.length_eq_zero_iff.mp this.symm)), hst]
    · rfl
  rw [hp, hs, hrow]
theorem jobs_gen {times times' : List Int} {w : Nat} {back back' : Int} (g : Int → Int) (hl : times'.length = times.length) (hrow : ∀ ps now, rowF times' (ps.map g) (g now) = (rowF times ps now).map g) (hst : ∀ a b, max (g a) (g b + back') = g (max a (b + back))) (h0 : times ≠ []) (hw : 1 ≤ w) :
    ∀ (comes : List Int) (found : List (List Int)), Wide times.length found → (comes.map g).foldl (stepF times' w back') (found.map (·.map g)) = (comes.foldl (stepF times w back) found).map (·.map g)
  | [], found, _ => rfl
  | x :: comes, found, hW => by
    rw [List.map_cons, List.foldl_cons, List.foldl_cons, step_gen g hrow hst h0 hW x hw]
    exact jobs_gen g hl hrow hst h0 hw comes _ (wide_step rfl hW)
/-- all that comes later, all later -/
theorem jobs_later {times : List Int} {w : Nat} {back : Int} (h0 : times ≠ []) (hw : 1 ≤ w) (comes : List Int) (b : Int) : jobsF times w back (comes.map (· + b)) = (jobsF times w back comes).map (·.map (· + b)) := by
  have := jobs_gen (times := times) (times' := times) (w := w) (back := back) (back' := back) (· + b) rfl (fun ps now => row_add b times ps now) (fun a c => by omega) h0 hw comes [] (fun r hr => nomatch hr)
  exact this
theorem jobs_mul {times : List Int} {w : Nat} {back : Int} (h0 : times ≠ []) (hw : 1 ≤ w) (comes : List Int) {k : Int} (hk : 0 ≤ k) : jobsF (times.map (k * ·)) w (k * back) (comes.map (k * ·)) = (jobsF times w back comes).map (·.map (k * ·)) := by
  have := jobs_gen (times := times) (times' := times.map (k * ·)) (w := w) (back := back) (back' := k * back) (k * ·) (by simp) (fun ps now => row_mul hk times ps now) (fun a c => by
    rw [← Int.mul_add, max_mul hk]) h0 hw comes [] (fun r hr => nomatch hr)
  exact this
end K42

set_option Elab.async false
set_option linter.all false
set_option maxRecDepth 100000
set_option maxHeartbeats 1000000
/-! K42gg: the order of the servers does not matter. -/
namespace K42
open PySem PySem.Spec PyProof.Rows L2 Dv
open Fx (fr Sm)
def rowE (F : Int → Int) : Int → Int → List Int → List Int
  | _, _, [] => []
  | pre, M, t :: ts => (pre + t + F (max M t)) :: rowE F (pre + t) (max M t) ts
theorem rowE_first (s : Int) : ∀ (ts : List Int) (pre M : Int), rowF ts [] (pre + s) = rowE (fun _ => s) pre M ts
  | [], _, _ => rfl
  | t :: ts, pre, M => by
    simp only [rowF, rowE]
    rw [show pre + s + t = pre + t + s by omega, rowE_first s ts (pre + t) (max M t)]
theorem rowE_next {F F' : Int → Int} {s : Int} (hF : ∀ X, F X = max s (F' X + X)) (mono : ∀ X Y, X ≤ Y → F' X ≤ F' Y) : ∀ (ts : List Int) (pre M : Int), rowF ts (rowE F' pre M ts) (pre + F M) = rowE F pre M ts
  | [], _, _ => rfl
  | t :: ts, pre, M => by
    have key : max (pre + F M) (pre + t + F' (max M t)) + t = pre + t + F (max M t) := by
      rw [hF M, hF (max M t)]
      rcases Int.le_total M t with c | c
      · rw [Int.max_eq_right c]
        have := mono M t c
        omega
      · rw [Int.max_eq_left c]
        omega
    simp only [rowE, rowF]
    rw [key, rowE_next hF mono ts (pre + t) (max M t)]
theorem rowE_last (F : Int → Int) : ∀ (ts : List Int) (pre M z : Int), (rowE F pre M ts).getLastD (pre + F M) = pre + ts.sum + F (ts.foldl max M)
  | [], pre, M, _ => by simp [rowE]
  | t :: ts, pre, M, z => by
    simp only [rowE, List.getLastD_cons, List.sum_cons, List.foldl_cons]
    rw [rowE_last F ts (pre + t) (max M t) z]
    omega
def FN (st : Nat → Int) : Nat → Int → Int
  | 0, _ => st 0
  | n + 1, X => max (st (n + 1)) (FN st n X + X)
theorem FN_mono (st : Nat → Int) : ∀ (n : Nat) (X Y : Int), X ≤ Y → FN st n X ≤ FN st n Y
  | 0, _, _, _ => Int.le_refl _
  | n + 1, X, Y, h => by
    have := FN_mono st n X Y h
    simp only [FN]
    omega
theorem FN_zero (st : Nat → Int) : ∀ (n : Nat), (∀ m, m < n → st m ≤ st (m + 1)) → FN st n 0 = st n
  | 0, _ => rfl
  | n + 1, h => by
    have a := FN_zero st n fun m hm => h m (by omega)
    have b := h n (by omega)
    simp only [FN]
    omega
theorem FN_congr {st st' : Nat → Int} : ∀ (n : Nat) (X : Int), (∀ m, m ≤ n → st m = st' m) → FN st n X = FN st' n X
  | 0, _, h => h 0 (Nat.le_refl _)
  | n + 1, X, h => by
    simp only [FN]
    rw [h (n + 1) (Nat.le_refl _), FN_congr n X fun m hm => h m (by omega)]
theorem foldl_max {times : List Int} (h0 : times ≠ []) (hp : ∀ t ∈ times, 0 ≤ t) : times.foldl max 0 = mx times := by
  cases times with
  | nil => exact absurd rfl h0
  | cons t ts =>
    show List.foldl max (max 0 t) ts = List.foldl max t ts
    have := hp t (by simp)
    rw [Int.max_eq_right this]
section
variable {times : List Int} {w : Nat} {back : Int} {comes : List Int} (h : Ch times w back) (hc : ∀ c ∈ comes, 0 ≤ c) (ha : ∀ i, i + 1 < comes.length → comes[i]?.getD 0 ≤ comes[i + 1]?.getD 0)
include h hc ha
theorem st_mono {n : Nat} (hn : n + 1 < comes.length) : stN times w back comes n ≤ stN times w back comes (n + 1) := by
  have a := ha n hn
  have w1 := h.w1
  unfold stN
  by_cases c : w ≤ n
  · rw [if_pos c, if_pos (by omega)]
    have := end_mono h (comes := comes) (n := n + 1 - w) (by omega) (by omega)
    rw [show n + 1 - w - 1 = n - w by omega] at this
    omega
  · rw [if_neg c]
    split <;> omega
theorem row_closed : ∀ (n : Nat), n < comes.length → rowN (jobsF times w back comes) n = rowE (FN (stN times w back comes) n) 0 0 times
  | 0, hn => by
    rw [row_st h hn, if_pos rfl]
    have := rowE_first (stN times w back comes 0) times 0 0
    rw [Int.zero_add] at this
    exact this
  | n + 1, hn => by
    rw [row_st h hn, if_neg (by omega), Nat.add_sub_cancel, row_closed n (by omega)]
    have z : FN (stN times w back comes) (n + 1) 0 = stN times w back comes (n + 1) := FN_zero _ _ fun m hm => st_mono h hc ha (by omega)
    have := rowE_next (F := FN (stN times w back comes) (n + 1)) (F' := FN (stN times w back comes) n) (s := stN times w back comes (n + 1)) (fun X => rfl) (FN_mono _ n) times 0 0
    rw [Int.zero_add, z] at this
    exact this
/-- when job n leaves: by the sum and the greatest of the times alone -/
theorem end_closed {n : Nat} (hn : n < comes.length) : endN (jobsF times w back comes) n = times.sum + FN (stN times w back comes) n (mx times) := by
  have r := row_closed h hc ha n hn
  have l := rowE_last (FN (stN times w back comes) n) times 0 0 0
  rw [← r] at l
  have hne : rowN (jobsF times w back comes) n ≠ [] := List.length_pos_iff.mp (by rw [rowN_len hn]; exact h.l1)
  unfold endN
  rw [lastD_ne hne 0 (0 + FN (stN times w back comes) n 0), l, foldl_max h.ne (tpos h)]
  omega
end
/-- another order of the servers -/
theorem end_order {times times' : List Int} {w : Nat} {back : Int} {comes : List Int} (h : Ch times w back) (h' : Ch times' w back) (hs : times.sum = times'.sum) (hm : mx times = mx times') (hc : ∀ c ∈ comes, 0 ≤ c) (ha : ∀ i, i + 1 < comes.length → comes[i]?.getD 0 ≤ comes[i + 1]?.getD 0) :
    ∀ (n : Nat), n < comes.length → endN (jobsF times w back comes) n = endN (jobsF times' w back comes) n := fun n => by
  induction n using Nat.strongRecOn with
  | ind n ih =>
    intro hn
    have w1 := h.w1
    rw [end_closed h hc ha hn, end_closed h' hc ha hn, hs, hm]
    congr 1
    refine FN_congr n _ fun m hmn => ?_
    unfold stN
    by_cases c : w ≤ m
    · rw [if_pos c, if_pos c, ih (m - w) (by omega) (by omega)]
    · rw [if_neg c, if_neg c]
end K42

set_option Elab.async false
set_option linter.all false
set_option maxRecDepth 100000
set_option maxHeartbeats 1000000
/-! K42hh: a wider window is never later. -/
namespace K42
open PySem PySem.Spec PyProof.Rows L2 Dv
open Fx (fr Sm)
/-- place by place at most -/
def LeR : List Int → List Int → Prop
  | x :: xs, y :: ys => x ≤ y ∧ LeR xs ys
  | [], _ => True
  | _ :: _, [] => False
theorem leR_get : ∀ {xs ys : List Int}, LeR xs ys → ∀ (i : Nat) (x y : Int), xs[i]? = some x → ys[i]? = some y → x ≤ y
  | x :: xs, y :: ys, h, 0, _, _, h1, h2 => by
    simp at h1 h2
    have := h.1
    omega
  | x :: xs, y :: ys, h, i + 1, _, _, h1, h2 => leR_get h.2 i _ _ (by simpa using h1) (by simpa using h2)
  | [], _, _, _, _, _, h1, _ => by simp at h1
theorem leR_last : ∀ {xs ys : List Int}, LeR xs ys → xs.length = ys.length → ∀ a b : Int, a ≤ b → xs.getLastD a ≤ ys.getLastD b
  | [], [], _, _, a, b, h => by simpa using h
  | x :: xs, y :: ys, h, hl, a, b, _ => by
    rw [List.getLastD_cons, List.getLastD_cons]
    exact leR_last h.2 (by simpa using hl) x y h.1
theorem row_le : ∀ (ts ps qs : List Int) (a b : Int), ps.length = ts.length → qs.length = ts.length → LeR ps qs → a ≤ b → LeR (rowF ts ps a) (rowF ts qs b)
  | [], [], [], _, _, _, _, _, _ => by simp [rowF, LeR]
  | t :: ts, p :: ps, q :: qs, a, b, h1, h2, h3, h4 => by
    have hx : max a p + t ≤ max b q + t := by
      have := h3.1
      omega
    exact ⟨hx, row_le ts ps qs _ _ (by simpa using h1) (by simpa using h2) h3.2 hx⟩
theorem row_le0 : ∀ (ts : List Int) (a b : Int), a ≤ b → LeR (rowF ts [] a) (rowF ts [] b)
  | [], _, _, _ => by simp [rowF, LeR]
  | t :: ts, a, b, h => ⟨by omega, row_le0 ts _ _ (by omega)⟩
theorem jobs_wider {times : List Int} {w : Nat} {back : Int} {comes : List Int} (h : Ch times w back) (h' : Ch times (w + 1) back) : ∀ (n : Nat), n < comes.length → LeR (rowN (jobsF times (w + 1) back comes) n) (rowN (jobsF times w back comes) n) := fun n => by
  induction n using Nat.strongRecOn with
  | ind n ih =>
    intro hn
    have w1 := h.w1
    have hst : stN times (w + 1) back comes n ≤ stN times w back comes n := by
      unfold stN
      by_cases c : w + 1 ≤ n
      · rw [if_pos c, if_pos (by omega)]
        have a := ih (n - (w + 1)) (by omega) (by omega)
        have b := leR_last a (by rw [rowN_len (by omega), rowN_len (by omega)]) 0 0 (Int.le_refl _)
        have d := end_mono h (comes := comes) (n := n - w) (by omega) (by omega)
        rw [show n - w - 1 = n - (w + 1) by omega] at d
        unfold endN at *
        omega
      · rw [if_neg c]
        split <;> omega
    rw [row_st h hn, row_st h' hn]
    by_cases c : n = 0
    · rw [if_pos c, if_pos c]
      exact row_le0 times _ _ hst
    · rw [if_neg c, if_neg c]
      exact row_le times _ _ _ _ (rowN_len (by omega)) (rowN_len (by omega)) (ih (n - 1) (by omega) (by omega)) hst
end K42

set_option Elab.async false
set_option linter.all false
set_option maxRecDepth 100000
set_option maxHeartbeats 1000000
/-! K42ii: the paper's fractions are small; the papers that the law asks. -/
namespace K42
open PySem PySem.Spec PyProof.Rows L2 Dv
open Fx (fr Sm)
theorem mat_lo {n : Nat} {f : Nat → Nat → Option Int} (h : Ln (matO n f)) {i j : Nat} {w : Int} (hi : i < n) (hj : j < n) (hf : f i j = some w) : w.natAbs ≤ 99 := by
  have hm : vecO n (f i) ∈ matO n f := List.mem_map.mpr ⟨i, by simpa using hi, rfl⟩
  have := h.lo _ hm w (List.mem_map.mpr ⟨j, by simpa using hj, hf⟩)
  omega
theorem it_bound {n : Nat} {f : Nat → Nat → Option Int} (h : Ln (matO n f)) {d num : Int} (hd : 0 ≤ d ∧ d < 1024) (hnum : num.natAbs < 1024) : ∀ (m i : Nat), i < n → 0 ≤ itT n f d num m z0 i ∧ itT n f d num m z0 i ≤ m * 103000
  | 0, i, _ => ⟨Int.le_refl _, by simp [itT]⟩
  | m + 1, i, hi => by
    rw [itT_succ]
    have ih := it_bound h hd hnum m i hi
    have e : ((m + 1 : Nat) : Int) * 103000 = m * 103000 + 103000 := by omega
    refine ⟨Int.le_trans ih.1 (rlx_ge _ _), ?_⟩
    rcases rlx_is (f := f) (d := d) (num := num) (r := itT n f d num m z0) (i := i) (List.range n) (itT n f d num m z0 i) with q | ⟨j, hj, w, hf, q⟩
    · unfold rndT
      rw [q]
      omega
    · have hj' : j < n := by simpa using hj
      have ihj := it_bound h hd hnum m j hj'
      have hw := mat_lo h hi hj' hf
      have b : w * d ≤ 99 * 1024 := by
        have b1 : w * d ≤ 99 * d := Int.mul_le_mul_of_nonneg_right (by omega) hd.1
        omega
      unfold rndT
      rw [q]
      omega
theorem paper_sm {n : Nat} {f : Nat → Nat → Option Int} (h : Ln (matO n f)) {B : Rat} (hB : Sm 10 B) {i : Nat} (hi : i < n) : Sm 20 (Rat.divInt (itT n f B.den B.num (n + 1) z0 i) B.den) := by
  have hn := h.l2
  rw [matO_len] at hn
  have d1 : B.den < 1024 := hB.2
  have d0 := B.den_nz
  have b := it_bound h (d := B.den) (num := B.num) ⟨by omega, by omega⟩ hB.1 (n + 1) i hi
  refine Sm.divInt ?_ ?_ (by omega)
  · have : (2 : Nat) ^ 20 = 1048576 := by decide
    omega
  · have : (2 : Nat) ^ 20 = 1048576 := by decide
    omega
/-- the paper's row, lifted, is taken for the line with potentials -/
theorem takes_pot {n : Nat} {f : Nat → Nat → Option Int} (h : Ln (matO n f)) (g : Nat → Int) (hg : ∀ i, i < n → (g i).natAbs ≤ 99) (h2 : Ln (matO n (potO g f))) {B : Rat} (hB : Sm 10 B) (hm : IsMax ((circF (edge (matO n f)) n).map (meanF (wt (matO n f)))) (some B)) {c : List Nat} (hc : Circ (edge (matO n f)) n c) (hcm : meanF (wt (matO n f)) c = B) (τ : Tp) :
    Φ "takes_rate" [.d (oTT (matO n (potO g f))), .d (fr B), .d (.tuple [nT c, qT n fun i => Rat.divInt (itT n f B.den B.num (n + 1) z0 i) B.den + (g i : Rat)])] τ = .ok (.d (.bool true)) τ := by
  have hn := h.l2
  rw [matO_len] at hn
  refine takes_ok h2 hB (fun i hi => ?_) (by rw [pot_edge]; exact hc) (by rw [pot_mean hc]; exact hcm) (fun i j w hi hj hw => ?_) τ
  · exact ((paper_sm h hB hi).add (Sm.int (k := 8) (by have := hg i hi; omega) (by decide))).mono (by omega)
  · simp only [potO] at hw
    cases hf : f i j with
    | none =>
      rw [hf] at hw
      cases hw
    | some v =>
      rw [hf] at hw
      simp only [Option.map_some, Option.some.injEq] at hw
      have gp := paper_gap hn hm hi hj hf
      rw [← hw, Rat.intCast_add, Rat.intCast_sub]
      grind
/-- and for the line moved -/
theorem takes_move {n : Nat} {f : Nat → Nat → Option Int} (h : Ln (matO n f)) (b : Int) (h2 : Ln (matO n (moveO f b))) {B : Rat} (hB : Sm 10 B) (hB2 : Sm 10 (B + (b : Rat))) (hm : IsMax ((circF (edge (matO n f)) n).map (meanF (wt (matO n f)))) (some B)) {c : List Nat} (hc : Circ (edge (matO n f)) n c) (hcm : meanF (wt (matO n f)) c = B) (τ : Tp) :
    Φ "takes_rate" [.d (oTT (matO n (moveO f b))), .d (fr (B + (b : Rat))), .d (.tuple [nT c, qT n fun i => Rat.divInt (itT n f B.den B.num (n + 1) z0 i) B.den])] τ = .ok (.d (.bool true)) τ := by
  have hn := h.l2
  rw [matO_len] at hn
  refine takes_ok h2 hB2 (fun i hi => (paper_sm h hB hi).mono (by omega)) (by rw [move_edge]; exact hc) (by rw [move_mean hc, hcm]) (fun i j w hi hj hw => ?_) τ
  simp only [moveO] at hw
  cases hf : f i j with
  | none =>
    rw [hf] at hw
    cases hw
  | some v =>
    rw [hf] at hw
    simp only [joinedO, Option.some.injEq] at hw
    have gp := paper_gap hn hm hi hj hf
    rw [← hw, Rat.intCast_add]
    grind
/-- and for the line multiplied -/
theorem takes_fac {n : Nat} {f : Nat → Nat → Option Int} (h : Ln (matO n f)) {k : Int} (hk : 0 < k) (hk2 : k ≤ 4) (h2 : Ln (matO n (facO k f))) {B : Rat} (hB : Sm 10 B) (hB2 : Sm 10 ((k : Rat) * B)) (hm : IsMax ((circF (edge (matO n f)) n).map (meanF (wt (matO n f)))) (some B)) {c : List Nat} (hc : Circ (edge (matO n f)) n c) (hcm : meanF (wt (matO n f)) c = B) (τ : Tp) :
    Φ "takes_rate" [.d (oTT (matO n (facO k f))), .d (fr ((k : Rat) * B)), .d (.tuple [nT c, qT n fun i => Rat.divInt (itT n f B.den B.num (n + 1) z0 i) B.den * (k : Rat)])] τ = .ok (.d (.bool true)) τ := by
  have hn := h.l2
  rw [matO_len] at hn
  have k0 : (0 : Rat) < (k : Rat) := by exact_mod_cast hk
  refine takes_ok h2 hB2 (fun i hi => ((paper_sm h hB hi).mul (Sm.int (k := 8) (by omega) (by decide))).mono (by omega)) (by rw [fac_edge]; exact hc) (by rw [fac_mean hc, hcm]) (fun i j w hi hj hw => ?_) τ
  simp only [facO] at hw
  cases hf : f i j with
  | none =>
    rw [hf] at hw
    cases hw
  | some v =>
    rw [hf] at hw
    simp only [Option.map_some, Option.some.injEq] at hw
    have gp := paper_gap hn hm hi hj hf
    rw [← hw, Rat.intCast_mul]
    generalize Rat.divInt (itT n f B.den B.num (n + 1) z0 j) B.den = x at *
    generalize Rat.divInt (itT n f B.den B.num (n + 1) z0 i) B.den = y at *
    have := Rat.mul_le_mul_of_nonneg_left gp (Rat.le_of_lt k0)
    grind
end K42

set_option Elab.async false
set_option linter.all false
set_option maxRecDepth 100000
set_option maxHeartbeats 1000000
/-! K42jj: paces under changes; who leaves when. -/
namespace K42
open PySem PySem.Spec PyProof.Rows L2 Dv
open Fx (fr Sm)
theorem best_same {times times' : List Int} (hs : times.sum = times'.sum) (hm : mx times = mx times') (w : Nat) (back : Int) : bestF times w back = bestF times' w back := by
  unfold bestF turnF
  rw [hs, hm]
theorem least_same {times times' : List Int} (hs : times.sum = times'.sum) (hm : mx times = mx times') (back : Int) : leastF times back = leastF times' back := by
  unfold leastF
  have : (fun w : Nat => decide (bestF times w back = (mx times : Rat))) = fun w : Nat => decide (bestF times' w back = (mx times' : Rat)) := by
    funext w
    rw [best_same hs hm, hm]
  rw [this]
theorem perm_mx {times times' : List Int} (h0 : times ≠ []) (hp : times.Perm times') : mx times = mx times' := by
  have h1 : times' ≠ [] := fun e => h0 (by rw [e] at hp; exact hp.eq_nil)
  refine Int.le_antisymm ((mx_le h0).mpr fun t ht => ?_) ((mx_le h1).mpr fun t ht => ?_)
  · exact (mx_le h1).mp (Int.le_refl _) t (hp.mem_iff.mp ht)
  · exact (mx_le h0).mp (Int.le_refl _) t (hp.mem_iff.mpr ht)
theorem sum_mul (k : Int) (l : List Int) : (l.map (k * ·)).sum = k * l.sum := by
  have := sum_map_mul k (fun x : Int => x) l
  simpa using this
theorem mx_mul {k : Int} (hk : 0 ≤ k) {times : List Int} (h0 : times ≠ []) : mx (times.map (k * ·)) = k * mx times := by
  have h1 : times.map (k * ·) ≠ [] := by simpa using h0
  refine Int.le_antisymm ((mx_le h1).mpr fun t ht => ?_) ?_
  · obtain ⟨s, hs, rfl⟩ := List.mem_map.mp ht
    exact Int.mul_le_mul_of_nonneg_left ((mx_le h0).mp (Int.le_refl _) s hs) hk
  · exact (mx_le h1).mp (Int.le_refl _) _ (List.mem_map.mpr ⟨mx times, mx_mem h0, rfl⟩)
theorem best_mul {k : Int} (hk : 0 < k) {times : List Int} (h0 : times ≠ []) (w : Nat) (back : Int) : bestF (times.map (k * ·)) w (k * back) = (k : Rat) * bestF times w back := by
  have k0 : (0 : Rat) < (k : Rat) := by exact_mod_cast hk
  have et : turnF (times.map (k * ·)) w (k * back) = (k : Rat) * turnF times w back := by
    unfold turnF
    rw [sum_mul, ← Int.mul_add, Rat.divInt_eq_div, Rat.divInt_eq_div, Rat.intCast_mul]
    grind
  unfold bestF
  rw [et, mx_mul (by omega) h0, Rat.intCast_mul]
  by_cases c : (mx times : Rat) < turnF times w back
  · have : (k : Rat) * (mx times : Rat) < (k : Rat) * turnF times w back := (Rat.mul_lt_mul_left k0).mpr c
    rw [if_pos c, if_pos this]
  · have : ¬ (k : Rat) * (mx times : Rat) < (k : Rat) * turnF times w back := fun q => c ((Rat.mul_lt_mul_left k0).mp q)
    rw [if_neg c, if_neg this]
/-- each job leaves the greatest time behind the one ahead, at least -/
theorem end_gap {times : List Int} {w : Nat} {back : Int} {comes : List Int} (h : Ch times w back) (hc : ∀ c ∈ comes, 0 ≤ c) (ha : ∀ i, i + 1 < comes.length → comes[i]?.getD 0 ≤ comes[i + 1]?.getD 0) {n : Nat} (hn : n + 1 < comes.length) : endN (jobsF times w back comes) n + mx times ≤ endN (jobsF times w back comes) (n + 1) := by
  rw [end_closed h hc ha (show n < comes.length by omega), end_closed h hc ha hn]
  simp only [FN]
  omega
end K42

set_option Elab.async false
set_option linter.all false
set_option maxRecDepth 100000
set_option maxHeartbeats 1000000
/-! K42kk: the law's small defs. -/
namespace K42
open PySem PySem.Spec PyProof.Rows L2 Dv
open Fx (fr Sm)
theorem plus_ok (a : Option Int) (b : Int) (τ : Tp) : Φ "_law_plus" [.d (oD a), .d (.int b)] τ = .ok (.d (oD (joinedO a (some b)))) τ := by
  rw [Φ_law_plus]
  cases a <;> simp [exs, ex, ev, evA, evT, evP, evO, evI, look_br, look_own, share_br, slotOf_br, setAll, shareAll, Dv.run, A_law_plus, N_law_plus, oD, joinedO]
/-- what the law's own regime gives -/
def lregD (n : Nat) (f : Nat → Nat → Option Int) (B : Rat) : D := if joinedF n (fun i j => (f i j).isSome) then (match regF n f B with
  | some p => regD B p.1 p.2
  | none => .none) else .none
theorem lregime_ok {n : Nat} {f : Nat → Nat → Option Int} (h : Ln (matO n f)) {B : Rat} (hB : Sm 10 B) (hr : ∀ τ, Φ "rate" [.d (oTT (matO n f))] τ = .ok (.d (fr B)) τ) (τ : Tp) : Φ "_law_regime" [.d (oTT (matO n f))] τ = .ok (.d (lregD n f B)) τ := by
  rw [Φ_law_regime]
  unfold lregD
  cases hj : joinedF n (fun i j => (f i j).isSome) with
  | false =>
    have r := regime_no h hj τ
    generalize matO n f = F at *
    simp [exs, ex, ev, evA, evT, evP, evO, evI, look_br, look_own, share_br, slotOf_br, setAll, shareAll, Dv.run, A_law_regime, N_law_regime, dropOwn, r]
  | true =>
    have r := regime_ok h hj hB hr τ
    cases hz : regF n f B with
    | none =>
      rw [hz] at r
      generalize matO n f = F at *
      simp [exs, ex, ev, evA, evT, evP, evO, evI, look_br, look_own, share_br, slotOf_br, setAll, shareAll, Dv.run, A_law_regime, N_law_regime, dropOwn, r]
    | some p =>
      rw [hz] at r
      generalize matO n f = F at *
      simp [exs, ex, ev, evA, evT, evP, evO, evI, look_br, look_own, share_br, slotOf_br, setAll, shareAll, Dv.run, A_law_regime, N_law_regime, dropOwn, r]
end K42

set_option Elab.async false
set_option linter.all false
set_option maxRecDepth 100000
set_option maxHeartbeats 2000000
/-! K42ll: drawn orders; the queues' draws. -/
namespace K42
open PySem PySem.Spec PyProof.Rows L2 Dv
open Fx (fr Sm Tk)
def drp : Nat → Ss → Ss
  | 0, s => s
  | n + 1, .cons _ r => drp n r
  | _ + 1, .nil => .nil
theorem erase_perm {left : List Nat} {a : Nat} (h : a < left.length) : (left[a] :: left.eraseIdx a).Perm left := by
  rw [List.eraseIdx_eq_take_drop_succ]
  refine (List.perm_middle).symm.trans ?_
  rw [← List.drop_eq_getElem_cons h, List.take_append_drop]
theorem nI_erase (left : List Nat) (a : Nat) : (nI left).eraseIdx a = nI (left.eraseIdx a) := by
  simp only [nI]
  induction left generalizing a with
  | nil => simp
  | cons x l ih => cases a with
    | zero => rfl
    | succ a => simp [List.eraseIdx, ih]
/-- places taken one by one from those left -/
theorem pop_loop {Bd : Ss} {tg : Tg} {E : Option Sl → Option Sl → Option Sl → Dv.Env} (hset : ∀ x k l o, setTg tg x (E k l o) = some (E (sD x) l o))
    (hstep : ∀ (x : D) (left order : List Nat) (τ τ' : Tp) (a : Nat) (ha : a < left.length), Φ "_law_take" [.tp, .d (.int (left.length : Nat))] τ = .ok (.d (.int a)) τ' → left.length ≤ 10 → order.length ≤ 100 →
      exs Φ Bd (E (sD x) (sO (nI left)) (sO (nI order))) τ = .nx (E (sD x) (sO (nI (left.eraseIdx a))) (sO (nI (order ++ [left[a]])))) τ') :
    ∀ (l : List D) (n : Nat) (τ : Tp) (left order : List Nat) (k : Option Sl), Tk (n + l.length) τ → l.length = left.length → left.length ≤ 10 → order.length + l.length ≤ 100 →
    ∃ order' k' τ', forLoop (exs Φ Bd) tg l (E k (sO (nI left)) (sO (nI order))) τ = .nx (E k' (sO []) (sO (nI order'))) τ' ∧ order'.Perm (order ++ left) ∧ Tk n τ' ∧ (k' = k ∧ l = [] ∨ ∃ x, k' = sD x)
  | [], n, τ, left, order, k, ht, hl, _, _ => by
    obtain rfl : left = [] := List.length_eq_zero_iff.mp hl.symm
    exact ⟨order, k, τ, rfl, by simp, ht, .inl ⟨rfl, rfl⟩⟩
  | x :: l, n, τ, left, order, k, ht, hl, h10, ho => by
    rw [List.length_cons] at ht hl ho
    obtain ⟨a, τ1, e, a0, a1, t1⟩ := Fx.draw (Φ := Φ) Φ_law_take (n := n + l.length) (many := (left.length : Nat)) ht (by omega) (by omega)
    obtain ⟨a, rfl⟩ : ∃ m : Nat, a = m := ⟨a.toNat, by omega⟩
    have ha : a < left.length := by omega
    have st := hstep x left order τ τ1 a ha e h10 (by omega)
    have le : (left.eraseIdx a).length = left.length - 1 := by rw [List.length_eraseIdx]; simp [ha]
    obtain ⟨order', k', τ', e2, p2, t2, k2⟩ := pop_loop hset hstep l n τ1 (left.eraseIdx a) (order ++ [left[a]]) (sD x) t1 (by omega) (by omega) (by simp; omega)
    refine ⟨order', k', τ', ?_, ?_, t2, .inr ?_⟩
    · rw [forLoop, hset]
      dsimp only
      rw [st]
      exact e2
    · refine p2.trans ?_
      rw [List.append_assoc]
      exact (erase_perm ha).append_left order
    · rcases k2 with ⟨rfl, _⟩ | h
      · exact ⟨x, rfl⟩
      · exact h
abbrev EQ (a1 a2 a3 a4 a5 a6 a7 a8 a9 a10 a11 a12 a13 a14 a15 a16 a17 a18 a19 a20 : Option Sl) : Dv.Env := [some (.sh .tp), a1, a2, a3, a4, a5, a6, a7, a8, a9, a10, a11, a12, a13, a14, a15, a16, a17, a18, a19, a20]
/-- jobs that come: what is drawn -/
theorem come_loop (a1 a3 a4 : Option Sl) : ∀ (l : List D) (n : Nat) (τ : Tp) (cs : List Int) (now : Int) (o2 : Option Sl), Tk (n + l.length) τ → cs.length + l.length ≤ 1000 →
    ∃ cs' now' o2' τ', forLoop (exs Φ B_law_queues_right_2) (.name 2) l (EQ a1 o2 a3 a4 (sO (iL cs)) (sI now) none none none none none none none none none none none none none none) τ = .nx (EQ a1 o2' a3 a4 (sO (iL cs')) (sI now') none none none none none none none none none none none none none none) τ' ∧ Tk n τ' ∧
      cs'.length = cs.length + l.length ∧ ((∀ c ∈ cs, 0 ≤ c ∧ c ≤ now) → 0 ≤ now → now + 7 * l.length ≤ 1000 → Asc cs → (∀ c ∈ cs', 0 ≤ c ∧ c ≤ 1000) ∧ Asc cs') ∧ (o2' = o2 ∨ ∃ x, o2' = sD x)
  | [], n, τ, cs, now, o2, ht, _ => ⟨cs, now, o2, τ, rfl, ht, rfl, ⟨fun h _ hn a => ⟨fun c hc => ⟨(h c hc).1, by have := (h c hc).2; simp at hn; omega⟩, a⟩, .inl rfl⟩⟩
  | x :: l, n, τ, cs, now, o2, ht, hl => by
    rw [List.length_cons] at ht hl
    obtain ⟨d, τ1, e, d0, d1, t1⟩ := Fx.draw (Φ := Φ) Φ_law_take (n := n + l.length) (many := 8) ht (by decide) (by decide)
    obtain ⟨cs', now', o6', τ', e2, t2, l2, f, g6⟩ := come_loop a1 a3 a4 l n τ1 (cs ++ [now + d]) (now + d) (sD x) t1 (by simp; omega)
    refine ⟨cs', now', o6', τ', ?_, t2, by rw [l2]; simp; omega, fun h h0 hn ha => f ?_ (by omega) (by rw [List.length_cons] at hn; omega) ?_, .inr ?_⟩
    · have hb : exs Φ B_law_queues_right_2 (EQ a1 (sD x) a3 a4 (sO (iL cs)) (sI now) none none none none none none none none none none none none none none) τ = .nx (EQ a1 (sD x) a3 a4 (sO (iL (cs ++ [now + d]))) (sI (now + d)) none none none none none none none none none none none none none none) τ1 := by
        have : cs.length ≤ 100000 := by omega
        unfold B_law_queues_right_2
        simp [exs, ex, ev, evA, evT, evP, evO, evI, look_br, look_own, share_br, slotOf_br, setAll, shareAll, EQ, e, this]
      simp only [forLoop, setTg, List.set, EQ] at e2 ⊢
      simp only [EQ] at hb
      rw [hb]
      exact e2
    · intro c hc
      rcases List.mem_append.mp hc with hc | hc
      · have := h c hc
        exact ⟨this.1, by omega⟩
      · rw [List.mem_singleton] at hc
        subst hc
        exact ⟨by omega, Int.le_refl _⟩
    · intro p hp
      rw [List.dropLast_concat] at hp
      rcases List.eq_nil_or_concat cs with rfl | ⟨cs1, z, rfl⟩
      · simp at hp
      · rw [List.concat_eq_append] at *
        have hz := (h z (by simp)).2
        cases cs1 with
        | nil =>
          simp at hp
          subst hp
          show z ≤ now + d
          omega
        | cons y ys =>
          simp only [List.cons_append, List.tail_cons] at hp
          have e3 : (y :: (ys ++ [z])).zip (ys ++ [z] ++ [now + d]) = (y :: ys).zip (ys ++ [z]) ++ [(z, now + d)] := by
            rw [show y :: (ys ++ [z]) = (y :: ys) ++ [z] from rfl, List.zip_append (by simp)]
            rfl
          rw [e3] at hp
          rcases List.mem_append.mp hp with hp | hp
          · exact ha p (by rw [show y :: ys ++ [z] = (y :: ys) ++ [z] from rfl, List.dropLast_concat]; exact hp)
          · rw [List.mem_singleton] at hp
            subst hp
            show z ≤ now + d
            omega
    · rcases g6 with rfl | h
      · exact ⟨x, rfl⟩
      · exact h
theorem times_draw {n : Nat} {τ : Tp} (ht : Tk (n + 5) τ) : ∃ (ts : List Int) (τ' : Tp), ev Φ C_law_queues_right_15 (EQ none none none none none none none none none none none none none none none none none none none none) τ = .ok (.fr (iL ts)) (EQ none none none none none none none none none none none none none none none none none none none none) τ' ∧ (1 ≤ ts.length ∧ ts.length ≤ 4) ∧ (∀ t ∈ ts, 0 ≤ t ∧ t < 9) ∧ Tk n τ' := by
  obtain ⟨a, τ1, e1, a0, a1, t1⟩ := Fx.draw (Φ := Φ) Φ_law_take (n := n + 4) (many := 4) ht (by decide) (by decide)
  obtain ⟨m, hm⟩ : ∃ m : Nat, 1 + a = m := ⟨(1 + a).toNat, by omega⟩
  obtain ⟨ys, τ', e, f, k⟩ := comp_draw (Φ := Φ) (φ := fun (i : Nat) => PyData.int (i : Nat)) (g := PyData.int) (Q := fun t => 0 ≤ t ∧ t < 9) (k := 1) (elt := K_law_queues_right_15) (tg := .name 2) (ik := .range1) (its := .cons (.bin .add (.cI 1) (.call "_law_take" (.cons (.var 0) (.cons (.cI 4) .nil)))) .nil) (own := [("k", 2)]) (l := List.range m) (n := n) (env := EQ none none none none none none none none none none none none none none none none none none none none) (env1 := EQ none none none none none none none none none none none none none none none none none none none none) (τ := τ) (τ1 := τ1)
    (envs := fun i => EQ none (sI (i : Nat)) none none none none none none none none none none none none none none none none none none)
    (by simp [exs, ex, ev, evA, evT, evP, evO, evI, look_br, look_own, share_br, slotOf_br, setAll, shareAll, e1, hm, range_it (n := m) (by omega)]) (t1.mono (by simp; omega)) rfl (by simp; omega) (fun a _ => rfl) (fun a _ => rfl) rfl (fun a _ => rfl) (fun a ha n τ hk => by
      obtain ⟨d, τ1, e, d0, d1, t1⟩ := Fx.draw (Φ := Φ) Φ_law_take (n := n) (many := 9) hk (by decide) (by decide)
      refine ⟨d, .sh (.d (.int d)), τ1, ?_, rfl, ⟨d0, d1⟩, t1⟩
      unfold K_law_queues_right_15
      simp [exs, ex, ev, evA, evT, evP, evO, evI, look_br, look_own, share_br, slotOf_br, setAll, shareAll, EQ, e])
  exact ⟨ys, τ', e, by have := f.1; simp at this; omega, f.2, k⟩
theorem asc_get {comes : List Int} (h : Asc comes) : ∀ i, i + 1 < comes.length → comes[i]?.getD 0 ≤ comes[i + 1]?.getD 0 := by
  intro i hi
  have := h (comes[i], comes[i + 1]) (by
    rw [List.mem_iff_getElem]
    refine ⟨i, by simp; omega, ?_⟩
    simp [List.getElem_zip])
  rw [List.getElem?_eq_getElem (by omega), List.getElem?_eq_getElem hi]
  exact this
/-- what is drawn for the queues -/
theorem queues_head {τ0 : Tp} (h0 : Tk 1000 τ0) : ∃ (times : List Int) (w : Nat) (back : Int) (comes : List Int) (order : List Nat) (now : Int) (x : D) (τ' : Tp), Ch times w back ∧ (∀ t ∈ times, t ≤ 8) ∧ back ≤ 11 ∧ comes.length ≤ 15 ∧ (∀ c ∈ comes, 0 ≤ c ∧ c ≤ 1000) ∧ Asc comes ∧ order.Perm (List.range times.length) ∧ Tk 10 τ' ∧
    exs Φ A_law_queues_right (EQ none none none none none none none none none none none none none none none none none none none none) τ0 = exs Φ (drp 7 A_law_queues_right) (EQ (sD (iT times)) (sD x) (sI w) (sI back) (sD (iT comes)) (sI now) (sO []) (sO (nI order)) none none none none none none none none none none none none) τ' := by
  obtain ⟨ts, τ2, e2, b1, b2, t2⟩ := times_draw (n := 900) (h0.mono (by omega))
  obtain ⟨w0, τ3, e3, w1, w2, t3⟩ := Fx.draw (Φ := Φ) Φ_law_take (n := 899) (many := 6) t2 (by decide) (by decide)
  obtain ⟨w, hw⟩ : ∃ m : Nat, 1 + w0 = m := ⟨(1 + w0).toNat, by omega⟩
  obtain ⟨back, τ4, e4, k0, k1, t4⟩ := Fx.draw (Φ := Φ) Φ_law_take (n := 898) (many := 12) t3 (by decide) (by decide)
  obtain ⟨c0, τ5, e5, c1, c2, t5⟩ := Fx.draw (Φ := Φ) Φ_law_take (n := 897) (many := 16) t4 (by decide) (by decide)
  obtain ⟨c, rfl⟩ : ∃ m : Nat, c0 = m := ⟨c0.toNat, by omega⟩
  have s0 := range_it (n := c) (by omega)
  have hL : ((List.range c).map fun (i : Nat) => PyData.int (i : Nat)).length = c := by simp
  generalize ((List.range c).map fun (i : Nat) => PyData.int (i : Nat)) = L at *
  obtain ⟨cs, now, o6, τ6, e6, t6, l6, f6, g6⟩ := come_loop (sD (iT ts)) (sI w) (sI back) L 800 τ5 [] 0 none (t5.mono (by omega)) (by simp; omega)
  obtain ⟨f1, f2⟩ := f6 (by simp) (by omega) (by omega) (by intro p hp; simp at hp)
  simp at l6
  have s1 := range_it (n := ts.length) (by omega)
  have hM : ((List.range ts.length).map fun (i : Nat) => PyData.int (i : Nat)).length = ts.length := by simp
  have hne : ((List.range ts.length).map fun (i : Nat) => PyData.int (i : Nat)) ≠ [] := fun e => by rw [e] at hM; simp at hM; omega
  have lr : prim1 .listRange (.int ts.length) = some (.fr (nI (List.range ts.length))) := by
    have : ts.length ≤ 100000 := by omega
    simp [prim1, small62_of ts.length (by omega) (by omega), rangeD, nI, this]
  obtain ⟨order, k', τ7, e7, p7, t7, k7⟩ := pop_loop (Bd := B_law_queues_right_1) (tg := .name 2) (E := fun k l o => EQ (sD (iT ts)) k (sI w) (sI back) (sD (iT cs)) (sI now) l o none none none none none none none none none none none none) (fun x k l o => rfl) (fun x left order τ τ' a ha e h10 h100 => by
    have c2 : (a : Int) < left.length := by omega
    have sm := small62_of (a : Int) (by omega) (by omega)
    have c3 : (nI left)[a]? = some (.int (left[a] : Nat)) := by simp [nI, List.getElem?_eq_getElem ha]
    have c4 := nI_erase left a
    have c5 : (nI left).length = left.length := by simp [nI]
    have c6 : nI (order ++ [left[a]]) = nI order ++ [.int (left[a] : Nat)] := by simp [nI]
    have c7 : (nI order).length ≤ 100000 := by simp [nI]; omega
    rw [c6, ← c4]
    generalize nI left = Lf at *
    generalize nI order = Od at *
    unfold B_law_queues_right_1
    simp [exs, ex, ev, evA, evT, evP, evO, evI, look_br, look_own, share_br, slotOf_br, setAll, shareAll, EQ, c5, e, c2, sm, c3, c7]) ((List.range ts.length).map fun (i : Nat) => PyData.int (i : Nat)) 100 τ6 (List.range ts.length) [] o6 (t6.mono (by simp; omega)) (by simp) (by simp; omega) (by simp; omega)
  obtain ⟨x, rfl⟩ : ∃ x, k' = sD x := by
    rcases k7 with ⟨_, h⟩ | h
    · exact absurd h hne
    · exact h
  refine ⟨ts, w, back, cs, order, now, x, τ7, ⟨by omega, by omega, fun t ht => by have := b2 t ht; omega, by omega, by omega, k0, by omega⟩, fun t ht => by have := b2 t ht; omega, by omega, by omega, f1, f2, by simpa using p7, t7.mono (by omega), ?_⟩
  have eA : A_law_queues_right = .cons (.set 1 (.blt .tuple (.cons C_law_queues_right_15 .nil)))
    (.cons (.par [3, 4] (.cons (.bin .add (.cI 1) (.call "_law_take" (.cons (.var 0) (.cons (.cI 6) .nil)))) (.cons (.call "_law_take" (.cons (.var 0) (.cons (.cI 12) .nil))) .nil)))
    (.cons (.par [5, 6] (.cons (.lst .nil) (.cons (.cI 0) .nil)))
    (.cons (.forS (.name 2) .range1 (.cons (.call "_law_take" (.cons (.var 0) (.cons (.cI 16) .nil))) .nil) B_law_queues_right_2)
    (.cons (.set 5 (.blt .tuple (.cons (.var 5) .nil)))
    (.cons (.par [7, 8] (.cons (.p1 .listRange (.blt .len (.cons (.var 1) .nil))) (.cons (.lst .nil) .nil)))
    (.cons (.forS (.name 2) .range1 (.cons (.blt .len (.cons (.var 1) .nil)) .nil) B_law_queues_right_1)
    (drp 7 A_law_queues_right))))))) := rfl
  conv => lhs; rw [eA]
  generalize drp 7 A_law_queues_right = rest
  rw [exs_nx (e1 := EQ (sD (iT ts)) none none none none none none none none none none none none none none none none none none none) (t1 := τ2)]
  · rw [exs_nx (e1 := EQ (sD (iT ts)) none (sI w) (sI back) none none none none none none none none none none none none none none none none) (t1 := τ4)]
    · rw [exs_nx (e1 := EQ (sD (iT ts)) none (sI w) (sI back) (sO []) (sI 0) none none none none none none none none none none none none none none) (t1 := τ4)]
      · rw [exs_nx (e1 := EQ (sD (iT ts)) o6 (sI w) (sI back) (sO (iL cs)) (sI now) none none none none none none none none none none none none none none) (t1 := τ6)]
        · rw [exs_nx (e1 := EQ (sD (iT ts)) o6 (sI w) (sI back) (sD (iT cs)) (sI now) none none none none none none none none none none none none none none) (t1 := τ6)]
          · rw [exs_nx (e1 := EQ (sD (iT ts)) o6 (sI w) (sI back) (sD (iT cs)) (sI now) (sO (nI (List.range ts.length))) (sO []) none none none none none none none none none none none none) (t1 := τ6)]
            · rw [exs_nx]
              simp only [EQ] at e7 ⊢
              simp only [ex, evA, ev]
              simp [exs, ex, ev, evA, evT, evP, evO, evI, look_br, look_own, share_br, slotOf_br, setAll, shareAll, s1]
              exact e7
            · simp [exs, ex, ev, evA, evT, evP, evO, evI, look_br, look_own, share_br, slotOf_br, setAll, shareAll, EQ, lr]
          · simp [exs, ex, ev, evA, evT, evP, evO, evI, look_br, look_own, share_br, slotOf_br, setAll, shareAll, EQ]
        · have e6' := e6
          simp only [EQ, iL, List.map_nil] at e6' ⊢
          simp only [ex, evA, ev]
          simp [exs, ex, ev, evA, evT, evP, evO, evI, look_br, look_own, share_br, slotOf_br, setAll, shareAll, e5, s0, e6']
      · simp [exs, ex, ev, evA, evT, evP, evO, evI, look_br, look_own, share_br, slotOf_br, setAll, shareAll, EQ]
    · simp only [EQ]
      simp [exs, ex, ev, evA, evT, evP, evO, evI, look_br, look_own, share_br, slotOf_br, setAll, shareAll, e3, e4, hw]
  · simp only [EQ] at e2 ⊢
    simp [exs, ex, ev, evA, evT, evP, evO, evI, look_br, look_own, share_br, slotOf_br, setAll, shareAll, e2]
end K42

set_option Elab.async false
set_option linter.all false
set_option maxRecDepth 100000
set_option maxHeartbeats 2000000
/-! K42nn: names; two lines beside each other. -/
namespace K42
open PySem PySem.Spec PyProof.Rows L2 Dv
open Fx (fr Sm Tk)
/-- the least -/
def mnN : List Nat → Nat
  | [] => 0
  | x :: r => r.foldl min x
theorem foldl_min_le : ∀ (r : List Nat) (x : Nat), r.foldl min x ≤ x ∧ ∀ k ∈ r, r.foldl min x ≤ k
  | [], x => by simp
  | a :: r, x => by
    have := foldl_min_le r (min x a)
    refine ⟨by have := this.1; simp only [List.foldl_cons]; omega, fun k hk => ?_⟩
    simp only [List.foldl_cons]
    rcases List.mem_cons.mp hk with rfl | hk
    · have := this.1; omega
    · exact this.2 k hk
theorem foldl_min_mem : ∀ (r : List Nat) (x : Nat), r.foldl min x ∈ x :: r
  | [], x => by simp
  | a :: r, x => by
    have := foldl_min_mem r (min x a)
    simp only [List.foldl_cons]
    rcases List.mem_cons.mp this with h | h
    · rw [h]
      rcases Nat.le_total x a with k | k
      · rw [Nat.min_eq_left k]; simp
      · rw [Nat.min_eq_right k]; simp
    · simp [h]
theorem mnN_mem {l : List Nat} (h : l ≠ []) : mnN l ∈ l := by
  cases l with
  | nil => exact absurd rfl h
  | cons x r => exact foldl_min_mem r x
theorem mnN_le {l : List Nat} : ∀ k ∈ l, mnN l ≤ k := by
  cases l with
  | nil => simp
  | cons x r =>
    intro k hk
    rcases List.mem_cons.mp hk with rfl | hk
    · exact (foldl_min_le r k).1
    · exact (foldl_min_le r x).2 k hk
def rotm (l : List Nat) : List Nat := l.drop (l.findIdx (· == mnN l)) ++ l.take (l.findIdx (· == mnN l))
theorem rotm_split {b t : List Nat} {x : Nat} (hn : (b ++ x :: t).Nodup) (hx : ∀ k ∈ b ++ x :: t, x ≤ k) : rotm (b ++ x :: t) = x :: t ++ b := by
  have hm : mnN (b ++ x :: t) = x := Nat.le_antisymm (mnN_le x (by simp)) (hx _ (mnN_mem (by simp)))
  have hb : x ∉ b := fun h => by
    rw [List.nodup_append] at hn
    exact hn.2.2 x h x (by simp) rfl
  have hi : (b ++ x :: t).findIdx (· == x) = b.length := by
    rw [List.findIdx_append, if_neg]
    · simp [List.findIdx_cons]
    · intro h
      rw [List.findIdx_lt_length] at h
      obtain ⟨y, hy, e⟩ := h
      simp at e
      subst e
      exact hb hy
  unfold rotm
  rw [hm, hi]
  simp
theorem rotm_circ {e : Nat → Nat → Bool} {n : Nat} {a b : List Nat} (h : Circ e n (b ++ a)) : rotm (a ++ b) = b ++ a := by
  obtain ⟨s, w, _⟩ := h
  have hd := w.hd
  have nd := w.nd
  have lt := w.lt
  cases b with
  | nil =>
    cases a with
    | nil => simp at hd
    | cons x t =>
      simp at hd
      subst hd
      have := rotm_split (b := []) (x := x) (t := t) (by simpa using nd) (fun k hk => (lt k (by simpa using hk)).1)
      simpa using this
  | cons x t =>
    simp at hd
    subst hd
    exact rotm_split (by
      exact (List.perm_append_comm.nodup_iff).mp nd) fun k hk => (lt k (by simp at hk ⊢; rcases hk with hk | hk | hk <;> simp [hk])).1
def renC (σ : Nat → Nat) (c : List Nat) : List Nat := rotm (c.map σ)
def renO (ι : Nat → Nat) (f : Nat → Nat → Option Int) : Nat → Nat → Option Int := fun i j => f (ι i) (ι j)
theorem steps_map (σ : Nat → Nat) (c : List Nat) : steps (c.map σ) = (steps c).map fun p => (σ p.1, σ p.2) := by
  unfold steps
  rw [← List.map_tail, ← List.map_take, ← List.map_append]
  rw [List.zip_map]
  rfl
/-- names that follow each other there and back -/
structure Nm (n : Nat) (σ ι : Nat → Nat) : Prop where
  s : ∀ k, k < n → σ k < n
  i : ∀ k, k < n → ι k < n
  is : ∀ k, k < n → ι (σ k) = k
  si : ∀ k, k < n → σ (ι k) = k
theorem Nm.symm {n : Nat} {σ ι : Nat → Nat} (h : Nm n σ ι) : Nm n ι σ := ⟨h.i, h.s, h.si, h.is⟩
section
variable {n : Nat} {σ ι : Nat → Nat} (h : Nm n σ ι) {f : Nat → Nat → Option Int}
include h
theorem cyc_ren {c : List Nat} (hc : Cyc (edge (matO n f)) n c) : Cyc (edge (matO n (renO ι f))) n (c.map σ) := by
  refine ⟨by simpa using hc.ne, ?_, ?_, ?_⟩
  · have : ∀ (l : List Nat), l.Nodup → (∀ k ∈ l, k < n) → (l.map σ).Nodup := fun l => by
      induction l with
      | nil => simp
      | cons x t ih =>
        intro h1 h2
        rw [List.nodup_cons] at h1
        rw [List.map_cons, List.nodup_cons]
        refine ⟨fun hm => ?_, ih h1.2 fun k hk => h2 k (by simp [hk])⟩
        obtain ⟨y, hy, e⟩ := List.mem_map.mp hm
        have e2 := congrArg ι e
        rw [h.is y (h2 y (by simp [hy])), h.is x (h2 x (by simp))] at e2
        subst e2
        exact h1.1 hy
    exact this c hc.nd hc.lt
  · intro k hk
    obtain ⟨y, hy, rfl⟩ := List.mem_map.mp hk
    exact h.s y (hc.lt y hy)
  · intro p hp
    rw [steps_map] at hp
    obtain ⟨q, hq, rfl⟩ := List.mem_map.mp hp
    have e := hc.st q hq
    rw [edge_mat] at e ⊢
    simp at e ⊢
    refine ⟨⟨h.s _ e.1.1, h.s _ e.1.2⟩, ?_⟩
    rw [renO, h.is _ e.1.1, h.is _ e.1.2]
    exact e.2
theorem circ_ren {c : List Nat} (hc : Circ (edge (matO n f)) n c) : ∃ a b, c.map σ = a ++ b ∧ renC σ c = b ++ a ∧ Circ (edge (matO n (renO ι f))) n (renC σ c) := by
  obtain ⟨a, b, e, k⟩ := cyc_turn (cyc_ren h (circ_cyc hc))
  have r := rotm_circ k
  refine ⟨a, b, e, ?_, ?_⟩
  · rw [renC, e, r]
  · rw [renC, e, r]; exact k
theorem ren_back {c : List Nat} (hc : Circ (edge (matO n f)) n c) : renC ι (renC σ c) = c := by
  obtain ⟨a, b, e, r, k⟩ := circ_ren h hc
  have e2 : (a ++ b).map ι = c := by
    rw [← e, List.map_map]
    conv => rhs; rw [← List.map_id c]
    exact List.map_congr_left fun x hx => h.is x ((circ_cyc hc).lt x hx)
  rw [r, renC, List.map_append]
  rw [List.map_append] at e2
  exact (rotm_circ (e := edge (matO n f)) (n := n) (by rw [e2]; exact hc)).trans e2
theorem ren_ren : edge (matO n (renO σ (renO ι f))) = edge (matO n f) := edge_same fun i j hi hj => by simp [renO, h.is i hi, h.is j hj]
theorem sum_ren {c : List Nat} (hc : Circ (edge (matO n f)) n c) : sumC (wt (matO n (renO ι f))) (renC σ c) = sumC (wt (matO n f)) c := by
  obtain ⟨a, b, e, r, k⟩ := circ_ren h hc
  rw [r, sum_rot, ← e]
  unfold sumC
  rw [steps_map, List.map_map]
  congr 1
  refine List.map_congr_left fun p hp => ?_
  obtain ⟨_, p1, p2⟩ := step_edge hc p hp
  simp only [Function.comp]
  rw [wt_mat (h.s _ p1) (h.s _ p2), wt_mat p1 p2, renO, h.is _ p1, h.is _ p2]
theorem mean_ren {c : List Nat} (hc : Circ (edge (matO n f)) n c) : meanF (wt (matO n (renO ι f))) (renC σ c) = meanF (wt (matO n f)) c := by
  unfold meanF
  rw [sum_ren h hc]
  obtain ⟨a, b, e, r, k⟩ := circ_ren h hc
  have : (renC σ c).length = c.length := by
    rw [r, List.length_append, Nat.add_comm, ← List.length_append, ← e, List.length_map]
  rw [this]
theorem circles_ren (hn : n ≤ 6) : (circF (edge (matO n (renO ι f))) n).Perm ((circF (edge (matO n f)) n).map (renC σ)) := by
  refine perm_of (circF_nodup hn) ?_ fun c => ?_
  · have : ∀ (l : List (List Nat)), l.Nodup → (∀ c ∈ l, Circ (edge (matO n f)) n c) → (l.map (renC σ)).Nodup := fun l => by
      induction l with
      | nil => simp
      | cons x t ih =>
        intro h1 h2
        rw [List.nodup_cons] at h1
        rw [List.map_cons, List.nodup_cons]
        refine ⟨fun hm => ?_, ih h1.2 fun k hk => h2 k (by simp [hk])⟩
        obtain ⟨y, hy, e⟩ := List.mem_map.mp hm
        have e2 := congrArg (renC ι) e
        rw [ren_back h (h2 y (by simp [hy])), ren_back h (h2 x (by simp))] at e2
        subst e2
        exact h1.1 hy
    exact this _ (circF_nodup hn) fun c hc => (circF_mem hn).mp hc
  · rw [circF_mem hn, List.mem_map]
    constructor
    · intro hc
      obtain ⟨_, _, _, _, k⟩ := circ_ren h.symm hc
      rw [ren_ren h] at k
      exact ⟨_, (circF_mem hn).mpr k, ren_back h.symm hc⟩
    · rintro ⟨d, hd, rfl⟩
      obtain ⟨_, _, _, _, k⟩ := circ_ren h ((circF_mem hn).mp hd)
      exact k
theorem means_ren (hn : n ≤ 6) : ((circF (edge (matO n (renO ι f))) n).map (meanF (wt (matO n (renO ι f))))).Perm ((circF (edge (matO n f)) n).map (meanF (wt (matO n f)))) := by
  refine ((circles_ren h hn).map _).trans ?_
  rw [List.map_map]
  refine List.Perm.of_eq (List.map_congr_left fun c hc => ?_)
  exact mean_ren h ((circF_mem hn).mp hc)
end
/-! ### two lines -/
def shC (off : Nat) (c : List Nat) : List Nat := c.map (· + off)
theorem circ_shift {W g : Nat → Nat → Bool} {N m off : Nat} (hN : m + off ≤ N) (he : ∀ k j, k < m → j < m → W (k + off) (j + off) = g k j) {c : List Nat} (hc : ∀ k ∈ c, k < m) : Circ W N (shC off c) ↔ Circ g m c := by
  have last : c ≠ [] → (shC off c).getLastD 0 = c.getLastD 0 + off := fun h => by
    rw [last_get (by simpa [shC] using h), last_get h]
    simp [shC]
  constructor
  · rintro ⟨s, w, e⟩
    have hne : c ≠ [] := by simpa [shC] using w.ne
    have hd := w.hd
    cases c with
    | nil => exact absurd rfl hne
    | cons x t =>
      simp [shC] at hd
      subst hd
      refine ⟨x, ⟨rfl, ?_, fun k hk => ⟨?_, hc k hk⟩, fun i hi => ?_⟩, ?_⟩
      · have := w.nd
        unfold shC at this
        exact List.Pairwise.imp (fun h e => h (by rw [e])) (List.pairwise_map.mp this)
      · have := (w.lt (k + off) (List.mem_map.mpr ⟨k, hk, rfl⟩)).1
        omega
      · have := w.st i (by simpa [shC] using hi)
        simp only [shC, List.getElem_map] at this
        rw [he _ _ (hc _ (List.getElem_mem _)) (hc _ (List.getElem_mem _))] at this
        exact this
      · rw [last hne, he _ _ (hc _ (by rw [last_get hne]; exact List.getElem_mem _)) (hc x (by simp))] at e
        exact e
  · rintro ⟨s, w, e⟩
    have hne := w.ne
    have hs : s < m := hc s (List.mem_of_head? w.hd)
    refine ⟨s + off, ⟨?_, ?_, fun k hk => ?_, fun i hi => ?_⟩, ?_⟩
    · simp [shC, w.hd]
    · have : ∀ (l : List Nat), l.Nodup → (l.map (· + off)).Nodup := fun l => by
        induction l with
        | nil => simp
        | cons x t ih =>
          intro h1
          rw [List.nodup_cons] at h1
          rw [List.map_cons, List.nodup_cons]
          refine ⟨fun hm => ?_, ih h1.2⟩
          obtain ⟨y, hy, e⟩ := List.mem_map.mp hm
          have : y = x := by omega
          subst this
          exact h1.1 hy
      exact this c w.nd
    · obtain ⟨y, hy, rfl⟩ := List.mem_map.mp hk
      have := w.lt y hy
      exact ⟨by omega, by omega⟩
    · simp only [shC, List.length_map] at hi
      have := w.st i hi
      simp only [shC, List.getElem_map]
      rw [he _ _ (hc _ (List.getElem_mem _)) (hc _ (List.getElem_mem _))]
      exact this
    · rw [last hne, he _ _ (hc _ (by rw [last_get hne]; exact List.getElem_mem _)) hs]
      exact e
theorem steps_sh (off : Nat) (c : List Nat) : steps (shC off c) = (steps c).map fun p => (p.1 + off, p.2 + off) := steps_map (· + off) c
def wideO (n m : Nat) (f g : Nat → Nat → Option Int) : Nat → Nat → Option Int := fun i j => if i < n then (if j < n then f i j else none) else if j < n then none else g (i - n) (j - n)
section
variable {n m : Nat} {f g : Nat → Nat → Option Int}
theorem wide_one {k j : Nat} (hk : k < n) (hj : j < n) : edge (matO (n + m) (wideO n m f g)) (k + 0) (j + 0) = edge (matO n f) k j := by
  rw [edge_mat, edge_mat]
  simp [wideO, hk, hj]
  omega
theorem wide_two {k j : Nat} (hk : k < m) (hj : j < m) : edge (matO (n + m) (wideO n m f g)) (k + n) (j + n) = edge (matO m g) k j := by
  rw [edge_mat, edge_mat]
  have e1 : ¬ k + n < n := by omega
  have e2 : ¬ j + n < n := by omega
  have e3 : k + n < n + m := by omega
  have e4 : j + n < n + m := by omega
  simp only [wideO, e1, e2, e3, e4, hk, hj, if_false, Nat.add_sub_cancel]
theorem wide_same {i j : Nat} (h : edge (matO (n + m) (wideO n m f g)) i j = true) : i < n ↔ j < n := by
  rw [edge_mat] at h
  simp at h
  have h := h.2
  unfold wideO at h
  split at h <;> split at h <;> simp_all <;> omega
theorem circ_wide {c : List Nat} : Circ (edge (matO (n + m) (wideO n m f g))) (n + m) c ↔ Circ (edge (matO n f)) n c ∨ ∃ d, Circ (edge (matO m g)) m d ∧ c = shC n d := by
  constructor
  · intro hc
    have hcc := hc
    obtain ⟨s, w, e⟩ := hc
    have hall : ∀ i (hi : i < c.length), (c[i] < n ↔ s < n) := fun i => by
      induction i with
      | zero =>
        intro hi
        have := w.hd
        rw [List.head?_eq_getElem?, List.getElem?_eq_getElem hi] at this
        simp at this
        rw [this]
      | succ i ih =>
        intro hi
        rw [← ih (by omega)]
        exact (wide_same (w.st i hi)).symm
    by_cases hs : s < n
    · left
      have h2 : ∀ k ∈ c, k < n := fun k hk => by
        obtain ⟨i, hi, rfl⟩ := List.mem_iff_getElem.mp hk
        exact (hall i hi).mpr hs
      have e2 : shC 0 c = c := by simp [shC]
      rw [← circ_shift (W := edge (matO (n + m) (wideO n m f g))) (N := n + m) (off := 0) (by omega) (fun k j hk hj => wide_one hk hj) h2, e2]
      exact hcc
    · right
      have h2 : ∀ k ∈ c, n ≤ k ∧ k < n + m := fun k hk => by
        obtain ⟨i, hi, rfl⟩ := List.mem_iff_getElem.mp hk
        have := (hall i hi)
        have := (w.lt _ hk).2
        omega
      have e2 : shC n (c.map (· - n)) = c := by
        unfold shC
        rw [List.map_map]
        conv => rhs; rw [← List.map_id c]
        exact List.map_congr_left fun k hk => by have := h2 k hk; simp; omega
      refine ⟨c.map (· - n), ?_, e2.symm⟩
      rw [← circ_shift (W := edge (matO (n + m) (wideO n m f g))) (N := n + m) (off := n) (by omega) (fun k j hk hj => wide_two hk hj), e2]
      · exact hcc
      · intro k hk
        obtain ⟨y, hy, rfl⟩ := List.mem_map.mp hk
        have := h2 y hy
        omega
  · rintro (hc | ⟨d, hd, rfl⟩)
    · have e2 : shC 0 c = c := by simp [shC]
      rw [← e2]
      exact (circ_shift (by omega) (fun k j hk hj => wide_one hk hj) (circ_cyc hc).lt).mpr hc
    · exact (circ_shift (by omega) (fun k j hk hj => wide_two hk hj) (circ_cyc hd).lt).mpr hd
theorem circles_wide (hn : n + m ≤ 6) : (circF (edge (matO (n + m) (wideO n m f g))) (n + m)).Perm (circF (edge (matO n f)) n ++ (circF (edge (matO m g)) m).map (shC n)) := by
  refine perm_of (circF_nodup hn) ?_ fun c => ?_
  · rw [List.nodup_append]
    refine ⟨circF_nodup (by omega), ?_, fun a ha b hb => ?_⟩
    · have inj : ∀ a b, shC n a = shC n b → a = b := fun a b e => by
        have e2 := congrArg (List.map (· - n)) e
        simpa [shC, List.map_map, Function.comp_def] using e2
      have : ∀ (l : List (List Nat)), l.Nodup → (l.map (shC n)).Nodup := fun l => by
        induction l with
        | nil => simp
        | cons x t ih =>
          intro h1
          rw [List.nodup_cons] at h1
          rw [List.map_cons, List.nodup_cons]
          refine ⟨fun hm => ?_, ih h1.2⟩
          obtain ⟨y, hy, e⟩ := List.mem_map.mp hm
          cases inj _ _ e
          exact h1.1 hy
      exact this _ (circF_nodup (by omega))
    · rintro rfl
      obtain ⟨d, hd, rfl⟩ := List.mem_map.mp hb
      have c1 := circ_cyc ((circF_mem (by omega)).mp ha)
      have := c1.ne
      cases d with
      | nil => exact this rfl
      | cons x t =>
        have := c1.lt (x + n) (by simp [shC])
        omega
  · rw [circF_mem hn, circ_wide, List.mem_append, circF_mem (by omega), List.mem_map]
    constructor
    · rintro (h | ⟨d, hd, rfl⟩)
      · exact .inl h
      · exact .inr ⟨d, (circF_mem (by omega)).mpr hd, rfl⟩
    · rintro (h | ⟨d, hd, rfl⟩)
      · exact .inl h
      · exact .inr ⟨d, (circF_mem (by omega)).mp hd, rfl⟩
theorem mean_one {c : List Nat} (hc : Circ (edge (matO n f)) n c) : meanF (wt (matO (n + m) (wideO n m f g))) c = meanF (wt (matO n f)) c := by
  unfold meanF
  rw [sumC_congr (v := wt (matO n f))]
  intro p hp
  obtain ⟨_, p1, p2⟩ := step_edge hc p hp
  rw [wt_mat (by omega) (by omega), wt_mat p1 p2]
  simp [wideO, p1, p2]
theorem mean_two {c : List Nat} (hc : Circ (edge (matO m g)) m c) : meanF (wt (matO (n + m) (wideO n m f g))) (shC n c) = meanF (wt (matO m g)) c := by
  unfold meanF sumC
  rw [steps_sh, List.map_map]
  have e : (shC n c).length = c.length := by simp [shC]
  rw [e]
  congr 2
  refine List.map_congr_left fun p hp => ?_
  obtain ⟨_, p1, p2⟩ := step_edge hc p hp
  simp only [Function.comp]
  rw [wt_mat (by omega) (by omega), wt_mat p1 p2]
  have e1 : ¬ p.1 + n < n := by omega
  have e2 : ¬ p.2 + n < n := by omega
  simp only [wideO, e1, e2, if_false, Nat.add_sub_cancel]
theorem means_wide (hn : n + m ≤ 6) : ((circF (edge (matO (n + m) (wideO n m f g))) (n + m)).map (meanF (wt (matO (n + m) (wideO n m f g))))).Perm ((circF (edge (matO n f)) n).map (meanF (wt (matO n f))) ++ (circF (edge (matO m g)) m).map (meanF (wt (matO m g)))) := by
  refine ((circles_wide hn).map _).trans ?_
  rw [List.map_append, List.map_map]
  refine List.Perm.of_eq ?_
  congr 1
  · exact List.map_congr_left fun c hc => mean_one ((circF_mem (by omega)).mp hc)
  · exact List.map_congr_left fun c hc => mean_two ((circF_mem (by omega)).mp hc)
end
def dueF : Option Rat → Option Rat → Option Rat
  | none, o => o
  | some a, none => some a
  | some a, some b => some (if a < b then b else a)
theorem due_max {l k : List Rat} {o p : Option Rat} (h1 : IsMax l o) (h2 : IsMax k p) : IsMax (l ++ k) (dueF o p) := by
  cases o with
  | none =>
    cases h1
    exact h2
  | some a =>
    cases p with
    | none =>
      cases h2
      rw [List.append_nil]
      exact h1
    | some b =>
      obtain ⟨a1, a2⟩ := h1
      obtain ⟨b1, b2⟩ := h2
      show IsMax (l ++ k) (some (if a < b then b else a))
      split
      · rename_i hlt
        refine ⟨by simp [b1], fun q hq => ?_⟩
        rcases List.mem_append.mp hq with hq | hq
        · exact Rat.le_trans (a2 q hq) (Rat.le_of_lt hlt)
        · exact b2 q hq
      · rename_i hlt
        refine ⟨by simp [a1], fun q hq => ?_⟩
        rcases List.mem_append.mp hq with hq | hq
        · exact a2 q hq
        · exact Rat.le_trans (b2 q hq) (Rat.not_lt.mp hlt)
theorem IsMax.perm {l m : List Rat} {o : Option Rat} (h : IsMax l o) (hp : l.Perm m) : IsMax m o := by
  cases o with
  | none =>
    cases h
    exact List.nil_perm.mp hp ▸ rfl
  | some a => exact ⟨hp.mem_iff.mp h.1, fun q hq => h.2 q (hp.mem_iff.mpr hq)⟩
end K42

set_option Elab.async false
set_option linter.all false
set_option maxRecDepth 100000
set_option maxHeartbeats 2000000
/-! K42mm: the queues' checks, expressions. -/
namespace K42
open PySem PySem.Spec PyProof.Rows L2 Dv
open Fx (fr Sm Tk)
/-! ### how great the times are -/
theorem row_hi : ∀ (ts ps : List Int) (now A : Int), (∀ t ∈ ts, 0 ≤ t) → now ≤ A → (∀ p ∈ ps, p ≤ A) → ∀ x ∈ rowF ts ps now, now ≤ x ∧ x ≤ A + ts.sum
  | [], _, _, _, _, _, _ => by simp [rowF]
  | t :: ts, [], now, A, ht, hn, hp => by
    have h0 := ht t (by simp)
    have h1 : 0 ≤ ts.sum := sum_lo fun x hx => ht x (by simp [hx])
    intro x hx
    rw [rowF] at hx
    rw [List.sum_cons]
    rcases List.mem_cons.mp hx with rfl | hx
    · omega
    · have := row_hi ts [] (now + t) (A + t) (fun x hx => ht x (by simp [hx])) (by omega) (by simp) x hx
      omega
  | t :: ts, p :: ps, now, A, ht, hn, hp => by
    have h0 := ht t (by simp)
    have h1 : 0 ≤ ts.sum := sum_lo fun x hx => ht x (by simp [hx])
    have h2 := hp p (by simp)
    intro x hx
    rw [rowF] at hx
    rw [List.sum_cons]
    rcases List.mem_cons.mp hx with rfl | hx
    · omega
    · have := row_hi ts ps (max now p + t) (A + t) (fun x hx => ht x (by simp [hx])) (by omega) (fun q hq => by have := hp q (by simp [hq]); omega) x hx
      omega
section
variable {times : List Int} {w : Nat} {back : Int} {comes : List Int} (h : Ch times w back) (hc : ∀ c ∈ comes, 0 ≤ c ∧ c ≤ 1000)
include h hc
theorem rows_hi : ∀ (n : Nat), n < comes.length → ∀ x ∈ rowN (jobsF times w back comes) n, 0 ≤ x ∧ x ≤ 1000 + (n + 1) * 200 := fun n => by
  induction n using Nat.strongRecOn with
  | ind n ih =>
    intro hn x hx
    rw [row_st h hn] at hx
    have hs := h.s1
    have hb := h.b1
    have w1 := h.w1
    have c0 : 0 ≤ comes[n]?.getD 0 ∧ comes[n]?.getD 0 ≤ 1000 := by
      rw [List.getElem?_eq_getElem hn]
      exact hc _ (List.getElem_mem _)
    have st : stN times w back comes n ≤ 1000 + (n : Int) * 200 + 30 ∧ 0 ≤ stN times w back comes n := by
      unfold stN
      split
      · rename_i hw
        have e : endN (jobsF times w back comes) (n - w) ∈ rowN (jobsF times w back comes) (n - w) := by
          unfold endN
          have hne : rowN (jobsF times w back comes) (n - w) ≠ [] := List.length_pos_iff.mp (by rw [rowN_len (by omega)]; exact h.l1)
          rw [last_getI hne]
          exact List.getLast_mem hne
        have := ih (n - w) (by omega) (by omega) _ e
        omega
      · omega
    have := row_hi times _ (stN times w back comes n) (1000 + (n : Int) * 200 + 30) (tpos h) st.1 (by
      intro p hp
      by_cases z : n = 0
      · simp [z] at hp
      · rw [if_neg z] at hp
        have := ih (n - 1) (by omega) (by omega) p hp
        omega) x hx
    omega
theorem jobs_hi (hl : comes.length ≤ 15) : ∀ r ∈ jobsF times w back comes, ∀ x ∈ r, 0 ≤ x ∧ x ≤ 10000 := fun r hr x hx => by
  obtain ⟨n, hn, rfl⟩ := List.mem_iff_getElem.mp hr
  rw [jobs_len] at hn
  have := rows_hi h hc n hn x (by
    unfold rowN
    rw [List.getElem?_eq_getElem (by rw [jobs_len]; exact hn)]
    exact hx)
  omega
end
abbrev eL (J : List (List Int)) : List D := J.map fun r => PyData.int (r.getLastD 0)
section
variable (a1 a2 a3 a4 a5 a6 a7 a8 a9 a10 a11 a13 a14 a15 a17 a18 a19 a20 : Option Sl) (τ : Tp)
theorem q_last {J : List (List Int)} (hJ : J.length ≤ 1000) (hne : ∀ r ∈ J, r ≠ []) (h10 : a10 = sD (iTT J)) : ev Φ C_law_queues_right_12 (EQ a1 a2 a3 a4 a5 a6 a7 a8 a9 a10 a11 none a13 a14 a15 none a17 a18 a19 a20) τ = .ok (.fr (eL J)) (EQ a1 a2 a3 a4 a5 a6 a7 a8 a9 a10 a11 none a13 a14 a15 none a17 a18 a19 a20) τ := by
  subst h10
  refine comp_map (l := J) (φ := iT) (env1 := EQ a1 a2 a3 a4 a5 a6 a7 a8 a9 (sD (iTT J)) a11 none a13 a14 a15 none a17 a18 a19 a20) (envs := fun r => EQ a1 a2 a3 a4 a5 a6 a7 a8 a9 (sD (iTT J)) a11 (sD (iT r)) a13 a14 a15 none a17 a18 a19 a20) ?_ rfl (by omega) (fun a _ => rfl) (fun a _ => rfl) rfl (fun a _ => rfl) fun r hr => ?_
  · simp [exs, ex, ev, evA, evT, evP, evO, evI, look_br, look_own, share_br, slotOf_br, setAll, shareAll, EQ]
  · have := last_at (hne r hr)
    unfold K_law_queues_right_12
    simp [exs, ex, ev, evA, evT, evP, evO, evI, look_br, look_own, share_br, slotOf_br, setAll, shareAll, EQ, this]
theorem q_last2 {J : List (List Int)} (hJ : J.length ≤ 1000) (hne : ∀ r ∈ J, r ≠ []) (h11 : a11 = sD (iTT J)) : ev Φ C_law_queues_right_13 (EQ a1 a2 a3 a4 a5 a6 a7 a8 a9 a10 a11 none a13 a14 a15 none a17 a18 a19 a20) τ = .ok (.fr (eL J)) (EQ a1 a2 a3 a4 a5 a6 a7 a8 a9 a10 a11 none a13 a14 a15 none a17 a18 a19 a20) τ := by
  subst h11
  refine comp_map (l := J) (φ := iT) (env1 := EQ a1 a2 a3 a4 a5 a6 a7 a8 a9 a10 (sD (iTT J)) none a13 a14 a15 none a17 a18 a19 a20) (envs := fun r => EQ a1 a2 a3 a4 a5 a6 a7 a8 a9 a10 (sD (iTT J)) (sD (iT r)) a13 a14 a15 none a17 a18 a19 a20) ?_ rfl (by omega) (fun a _ => rfl) (fun a _ => rfl) rfl (fun a _ => rfl) fun r hr => ?_
  · simp [exs, ex, ev, evA, evT, evP, evO, evI, look_br, look_own, share_br, slotOf_br, setAll, shareAll, EQ]
  · have := last_at (hne r hr)
    unfold K_law_queues_right_13
    simp [exs, ex, ev, evA, evT, evP, evO, evI, look_br, look_own, share_br, slotOf_br, setAll, shareAll, EQ, this]
theorem q_ends {J : List (List Int)} (hJ : J.length ≤ 1000) (hne : ∀ r ∈ J, r ≠ []) (h10 : a10 = sD (iTT J)) : ev Φ C_law_queues_right_2 (EQ a1 a2 a3 a4 a5 a6 a7 a8 a9 a10 a11 none a13 a14 a15 none a17 a18 a19 a20) τ = .ok (.fr (eL J)) (EQ a1 a2 a3 a4 a5 a6 a7 a8 a9 a10 a11 none a13 a14 a15 none a17 a18 a19 a20) τ :=
  q_last a1 a2 a3 a4 a5 a6 a7 a8 a9 a10 a11 a13 a14 a15 a17 a18 a19 a20 τ hJ hne h10
theorem q_other {times : List Int} {order : List Nat} (h8 : a8 = sO (nI order)) (h1 : a1 = sD (iT times)) (ho : ∀ k ∈ order, k < times.length) (hl : order.length ≤ 100) (x : D) : ev Φ C_law_queues_right_14 (EQ a1 (sD x) a3 a4 a5 a6 a7 a8 a9 a10 a11 none a13 a14 a15 none a17 a18 a19 a20) τ = .ok (.fr (iL (order.map fun k => times[k]?.getD 0))) (EQ a1 (sD x) a3 a4 a5 a6 a7 (sD (.list (nI order))) a9 a10 a11 none a13 a14 a15 none a17 a18 a19 a20) τ := by
  subst h8 h1
  have e : iL (order.map fun k => times[k]?.getD 0) = order.map fun k => PyData.int (times[k]?.getD 0) := by simp [iL]
  rw [e]
  refine comp_map (l := order) (φ := fun (k : Nat) => PyData.int k) (env1 := EQ (sD (iT times)) (sD x) a3 a4 a5 a6 a7 (sD (.list (nI order))) a9 a10 a11 none a13 a14 a15 none a17 a18 a19 a20) (envs := fun k => EQ (sD (iT times)) (sI (k : Nat)) a3 a4 a5 a6 a7 (sD (.list (nI order))) a9 a10 a11 none a13 a14 a15 none a17 a18 a19 a20) ?_ rfl (by omega) (fun a _ => rfl) (fun a _ => rfl) rfl (fun a _ => rfl) fun k hk => ?_
  · simp [exs, ex, ev, evA, evT, evP, evO, evI, look_br, look_own, share_br, slotOf_br, setAll, shareAll, EQ, share_own]
  · have : atI (iL times) (k : Int) = some (.int (times[k]?.getD 0)) := by
      rw [at_nat (by simpa using ho k hk)]
      simp [List.getElem?_eq_getElem (ho k hk)]
    unfold K_law_queues_right_14
    simp [exs, ex, ev, evA, evT, evP, evO, evI, look_br, look_own, share_br, slotOf_br, setAll, shareAll, EQ, this]
theorem q_late {l : List Int} {b : Int} (h5 : a5 = sD (iT l)) (h13 : a13 = sI b) (hl : l.length ≤ 100) : ev Φ C_law_queues_right_11 (EQ a1 a2 a3 a4 a5 a6 a7 a8 a9 a10 a11 none a13 a14 a15 none a17 a18 a19 a20) τ = .ok (.fr (iL (l.map (· + b)))) (EQ a1 a2 a3 a4 a5 a6 a7 a8 a9 a10 a11 none a13 a14 a15 none a17 a18 a19 a20) τ := by
  subst h5 h13
  have e : iL (l.map (· + b)) = l.map fun k => PyData.int (k + b) := by simp [iL]
  rw [e]
  refine comp_map (l := l) (φ := PyData.int) (env1 := EQ a1 a2 a3 a4 (sD (iT l)) a6 a7 a8 a9 a10 a11 none (sI b) a14 a15 none a17 a18 a19 a20) (envs := fun k => EQ a1 a2 a3 a4 (sD (iT l)) a6 a7 a8 a9 a10 a11 none (sI b) a14 a15 (sI k) a17 a18 a19 a20) ?_ rfl (by omega) (fun a _ => rfl) (fun a _ => rfl) rfl (fun a _ => rfl) fun k hk => ?_
  · simp [exs, ex, ev, evA, evT, evP, evO, evI, look_br, look_own, share_br, slotOf_br, setAll, shareAll, EQ]
  · unfold K_law_queues_right_11
    simp [exs, ex, ev, evA, evT, evP, evO, evI, look_br, look_own, share_br, slotOf_br, setAll, shareAll, EQ]
theorem q_lates {J : List (List Int)} {b : Int} (h10 : a10 = sD (iTT J)) (h13 : a13 = sI b) (hJ : J.length ≤ 100) (hl : ∀ r ∈ J, r.length ≤ 100) : ev Φ C_law_queues_right_10 (EQ a1 a2 a3 a4 a5 a6 a7 a8 a9 a10 a11 none a13 a14 a15 none a17 a18 a19 a20) τ = .ok (.fr (iR (J.map (·.map (· + b))))) (EQ a1 a2 a3 a4 a5 a6 a7 a8 a9 a10 a11 none a13 a14 a15 none a17 a18 a19 a20) τ := by
  subst h10 h13
  have e : iR (J.map (·.map (· + b))) = J.map fun r => iT (r.map (· + b)) := by simp only [iR, List.map_map]; rfl
  rw [e]
  refine comp_map (l := J) (φ := iT) (env1 := EQ a1 a2 a3 a4 a5 a6 a7 a8 a9 (sD (iTT J)) a11 none (sI b) a14 a15 none a17 a18 a19 a20) (envs := fun r => EQ a1 a2 a3 a4 a5 a6 a7 a8 a9 (sD (iTT J)) a11 (sD (iT r)) (sI b) a14 a15 none a17 a18 a19 a20) ?_ rfl (by omega) (fun a _ => rfl) (fun a _ => rfl) rfl (fun a _ => rfl) fun r hr => ?_
  · simp [exs, ex, ev, evA, evT, evP, evO, evI, look_br, look_own, share_br, slotOf_br, setAll, shareAll, EQ]
  · have c : ev Φ C_law_queues_right_9 (EQ a1 a2 a3 a4 a5 a6 a7 a8 a9 (sD (iTT J)) a11 (sD (iT r)) (sI b) a14 a15 none a17 a18 a19 a20) τ = .ok (.fr (r.map fun k => PyData.int (k + b))) (EQ a1 a2 a3 a4 a5 a6 a7 a8 a9 (sD (iTT J)) a11 (sD (iT r)) (sI b) a14 a15 none a17 a18 a19 a20) τ := by
      refine comp_map (l := r) (φ := PyData.int) (env1 := EQ a1 a2 a3 a4 a5 a6 a7 a8 a9 (sD (iTT J)) a11 (sD (iT r)) (sI b) a14 a15 none a17 a18 a19 a20) (envs := fun k => EQ a1 a2 a3 a4 a5 a6 a7 a8 a9 (sD (iTT J)) a11 (sD (iT r)) (sI b) a14 a15 (sI k) a17 a18 a19 a20) ?_ rfl (by have := hl r hr; omega) (fun a _ => rfl) (fun a _ => rfl) rfl (fun a _ => rfl) fun k hk => ?_
      · simp [exs, ex, ev, evA, evT, evP, evO, evI, look_br, look_own, share_br, slotOf_br, setAll, shareAll, EQ]
      · unfold K_law_queues_right_9
        simp [exs, ex, ev, evA, evT, evP, evO, evI, look_br, look_own, share_br, slotOf_br, setAll, shareAll, EQ]
    have e : iL (r.map (· + b)) = r.map fun k => PyData.int (k + b) := by simp [iL]
    rw [← e] at c
    refine ⟨.sh (.d (iT (r.map (· + b)))), ?_, rfl⟩
    unfold K_law_queues_right_10
    generalize r.map (· + b) = Z at *
    simp only [EQ] at c ⊢
    simp [exs, ex, ev, evA, evT, evP, evO, evI, look_br, look_own, share_br, slotOf_br, setAll, shareAll, c]
theorem q_mul1 {l : List Int} {b : Int} (h1 : a1 = sD (iT l)) (h14 : a14 = sI b) (hl : l.length ≤ 100) (hb : ∀ x ∈ l, bitsOk b x = true) : ev Φ C_law_queues_right_8 (EQ a1 a2 a3 a4 a5 a6 a7 a8 a9 a10 a11 none a13 a14 a15 none a17 a18 a19 a20) τ = .ok (.fr (iL (l.map (b * ·)))) (EQ a1 a2 a3 a4 a5 a6 a7 a8 a9 a10 a11 none a13 a14 a15 none a17 a18 a19 a20) τ := by
  subst h1 h14
  have e : iL (l.map (b * ·)) = l.map fun k => PyData.int (b * k) := by simp [iL]
  rw [e]
  refine comp_map (l := l) (φ := PyData.int) (env1 := EQ (sD (iT l)) a2 a3 a4 a5 a6 a7 a8 a9 a10 a11 none a13 (sI b) a15 none a17 a18 a19 a20) (envs := fun k => EQ (sD (iT l)) a2 a3 a4 a5 a6 a7 a8 a9 a10 a11 none a13 (sI b) a15 (sI k) a17 a18 a19 a20) ?_ rfl (by omega) (fun a _ => rfl) (fun a _ => rfl) rfl (fun a _ => rfl) fun k hk => ?_
  · simp [exs, ex, ev, evA, evT, evP, evO, evI, look_br, look_own, share_br, slotOf_br, setAll, shareAll, EQ]
  · unfold K_law_queues_right_8
    simp [exs, ex, ev, evA, evT, evP, evO, evI, look_br, look_own, share_br, slotOf_br, setAll, shareAll, EQ, bin_mul, hb k hk]
theorem q_mul1b {l : List Int} {b : Int} (h1 : a1 = sD (iT l)) (h14 : a14 = sI b) (hl : l.length ≤ 100) (hb : ∀ x ∈ l, bitsOk b x = true) : ev Φ C_law_queues_right_4 (EQ a1 a2 a3 a4 a5 a6 a7 a8 a9 a10 a11 none a13 a14 a15 none a17 a18 a19 a20) τ = .ok (.fr (iL (l.map (b * ·)))) (EQ a1 a2 a3 a4 a5 a6 a7 a8 a9 a10 a11 none a13 a14 a15 none a17 a18 a19 a20) τ :=
  q_mul1 a1 a2 a3 a4 a5 a6 a7 a8 a9 a10 a11 a13 a14 a15 a17 a18 a19 a20 τ h1 h14 hl hb
theorem q_mul5 {l : List Int} {b : Int} (h5 : a5 = sD (iT l)) (h14 : a14 = sI b) (hl : l.length ≤ 100) (hb : ∀ x ∈ l, bitsOk b x = true) : ev Φ C_law_queues_right_7 (EQ a1 a2 a3 a4 a5 a6 a7 a8 a9 a10 a11 none a13 a14 a15 none a17 a18 a19 a20) τ = .ok (.fr (iL (l.map (b * ·)))) (EQ a1 a2 a3 a4 a5 a6 a7 a8 a9 a10 a11 none a13 a14 a15 none a17 a18 a19 a20) τ := by
  subst h5 h14
  have e : iL (l.map (b * ·)) = l.map fun k => PyData.int (b * k) := by simp [iL]
  rw [e]
  refine comp_map (l := l) (φ := PyData.int) (env1 := EQ a1 a2 a3 a4 (sD (iT l)) a6 a7 a8 a9 a10 a11 none a13 (sI b) a15 none a17 a18 a19 a20) (envs := fun k => EQ a1 a2 a3 a4 (sD (iT l)) a6 a7 a8 a9 a10 a11 none a13 (sI b) a15 (sI k) a17 a18 a19 a20) ?_ rfl (by omega) (fun a _ => rfl) (fun a _ => rfl) rfl (fun a _ => rfl) fun k hk => ?_
  · simp [exs, ex, ev, evA, evT, evP, evO, evI, look_br, look_own, share_br, slotOf_br, setAll, shareAll, EQ]
  · unfold K_law_queues_right_7
    simp [exs, ex, ev, evA, evT, evP, evO, evI, look_br, look_own, share_br, slotOf_br, setAll, shareAll, EQ, bin_mul, hb k hk]
theorem q_muls {J : List (List Int)} {b : Int} (h10 : a10 = sD (iTT J)) (h14 : a14 = sI b) (hJ : J.length ≤ 100) (hl : ∀ r ∈ J, r.length ≤ 100) (hb : ∀ r ∈ J, ∀ x ∈ r, bitsOk b x = true) : ev Φ C_law_queues_right_6 (EQ a1 a2 a3 a4 a5 a6 a7 a8 a9 a10 a11 none a13 a14 a15 none a17 a18 a19 a20) τ = .ok (.fr (iR (J.map (·.map (b * ·))))) (EQ a1 a2 a3 a4 a5 a6 a7 a8 a9 a10 a11 none a13 a14 a15 none a17 a18 a19 a20) τ := by
  subst h10 h14
  have e : iR (J.map (·.map (b * ·))) = J.map fun r => iT (r.map (b * ·)) := by simp only [iR, List.map_map]; rfl
  rw [e]
  refine comp_map (l := J) (φ := iT) (env1 := EQ a1 a2 a3 a4 a5 a6 a7 a8 a9 (sD (iTT J)) a11 none a13 (sI b) a15 none a17 a18 a19 a20) (envs := fun r => EQ a1 a2 a3 a4 a5 a6 a7 a8 a9 (sD (iTT J)) a11 (sD (iT r)) a13 (sI b) a15 none a17 a18 a19 a20) ?_ rfl (by omega) (fun a _ => rfl) (fun a _ => rfl) rfl (fun a _ => rfl) fun r hr => ?_
  · simp [exs, ex, ev, evA, evT, evP, evO, evI, look_br, look_own, share_br, slotOf_br, setAll, shareAll, EQ]
  · have c : ev Φ C_law_queues_right_5 (EQ a1 a2 a3 a4 a5 a6 a7 a8 a9 (sD (iTT J)) a11 (sD (iT r)) a13 (sI b) a15 none a17 a18 a19 a20) τ = .ok (.fr (r.map fun k => PyData.int (b * k))) (EQ a1 a2 a3 a4 a5 a6 a7 a8 a9 (sD (iTT J)) a11 (sD (iT r)) a13 (sI b) a15 none a17 a18 a19 a20) τ := by
      refine comp_map (l := r) (φ := PyData.int) (env1 := EQ a1 a2 a3 a4 a5 a6 a7 a8 a9 (sD (iTT J)) a11 (sD (iT r)) a13 (sI b) a15 none a17 a18 a19 a20) (envs := fun k => EQ a1 a2 a3 a4 a5 a6 a7 a8 a9 (sD (iTT J)) a11 (sD (iT r)) a13 (sI b) a15 (sI k) a17 a18 a19 a20) ?_ rfl (by have := hl r hr; omega) (fun a _ => rfl) (fun a _ => rfl) rfl (fun a _ => rfl) fun k hk => ?_
      · simp [exs, ex, ev, evA, evT, evP, evO, evI, look_br, look_own, share_br, slotOf_br, setAll, shareAll, EQ]
      · unfold K_law_queues_right_5
        simp [exs, ex, ev, evA, evT, evP, evO, evI, look_br, look_own, share_br, slotOf_br, setAll, shareAll, EQ, bin_mul, hb r hr k hk]
    have e : iL (r.map (b * ·)) = r.map fun k => PyData.int (b * k) := by simp [iL]
    rw [← e] at c
    refine ⟨.sh (.d (iT (r.map (b * ·)))), ?_, rfl⟩
    unfold K_law_queues_right_6
    generalize r.map (b * ·) = Z at *
    simp only [EQ] at c ⊢
    simp [exs, ex, ev, evA, evT, evP, evO, evI, look_br, look_own, share_br, slotOf_br, setAll, shareAll, c]
theorem q_wide {n : Nat} {W J : List (List Int)} {rw_ rj : List Int} {times : List Int} (h1 : a1 = sD (iT times)) (h10 : a10 = sD (iTT J)) (h18 : a18 = sD (iTT W)) (h19 : a19 = sI n) (hw : W[n]? = some rw_) (hj : J[n]? = some rj) (lw : rw_.length = times.length) (lj : rj.length = times.length) (ht : times.length ≤ 100)
    (hle : ∀ (i : Nat) (x y : Int), rw_[i]? = some x → rj[i]? = some y → x ≤ y) (z : D) : ev Φ C_law_queues_right_3 (EQ a1 (sD z) a3 a4 a5 a6 a7 a8 a9 a10 a11 none a13 a14 a15 none a17 a18 a19 a20) τ = .ok (.fr ((List.range times.length).map fun _ => PyData.bool false)) (EQ a1 (sD z) a3 a4 a5 a6 a7 a8 a9 a10 a11 none a13 a14 a15 none a17 a18 a19 a20) τ := by
  subst h1 h10 h18 h19
  obtain ⟨g1, g2⟩ := List.getElem?_eq_some_iff.mp hw
  obtain ⟨g3, g4⟩ := List.getElem?_eq_some_iff.mp hj
  have x1 : atI (iR W) (n : Int) = some (iT rw_) := by
    rw [at_nat (by simpa using g1)]; simp [g2]
  have x2 : atI (iR J) (n : Int) = some (iT rj) := by
    rw [at_nat (by simpa using g3)]; simp [g4]
  refine comp_map (l := List.range times.length) (φ := fun (k : Nat) => PyData.int k) (env1 := EQ (sD (iT times)) (sD z) a3 a4 a5 a6 a7 a8 a9 (sD (iTT J)) a11 none a13 a14 a15 none a17 (sD (iTT W)) (sI n) a20) (envs := fun k => EQ (sD (iT times)) (sI (k : Nat)) a3 a4 a5 a6 a7 a8 a9 (sD (iTT J)) a11 none a13 a14 a15 none a17 (sD (iTT W)) (sI n) a20) ?_ rfl (by simp; omega) (fun a _ => rfl) (fun a _ => rfl) rfl (fun a _ => rfl) fun k hk => ?_
  · have r := range_it (n := times.length) (by omega)
    generalize ((List.range times.length).map fun (k : Nat) => PyData.int k) = L at *
    simp [exs, ex, ev, evA, evT, evP, evO, evI, look_br, look_own, share_br, slotOf_br, setAll, shareAll, EQ, r]
  · simp at hk
    have y1 : atI (iL rw_) (k : Int) = some (.int (rw_[k]'(by omega))) := by
      rw [at_nat (by simp; omega)]; simp
    have y2 : atI (iL rj) (k : Int) = some (.int (rj[k]'(by omega))) := by
      rw [at_nat (by simp; omega)]; simp
    have := hle k _ _ (List.getElem?_eq_getElem (by omega)) (List.getElem?_eq_getElem (by omega))
    have n1 : ¬ (rw_[k]'(by omega)) > (rj[k]'(by omega)) := by omega
    unfold K_law_queues_right_3
    generalize (rw_[k]'(by omega)) = X at *
    generalize (rj[k]'(by omega)) = Y at *
    refine ⟨.sh (.d (.bool false)), ?_, rfl⟩
    simp [exs, ex, ev, evA, evT, evP, evO, evI, look_br, look_own, share_br, slotOf_br, setAll, shareAll, EQ, x1, x2, y1, y2, n1]
theorem q_gap {J : List (List Int)} {times : List Int} (h1 : a1 = sD (iT times)) (h20 : a20 = sO (eL J)) (h0 : times ≠ []) (hJ : J.length ≤ 100) (hle : ∀ n, n + 1 < J.length → endN J n + mx times ≤ endN J (n + 1)) (h19 : a19 = none ∨ ∃ x, a19 = sD x) : ev Φ C_law_queues_right_0 (EQ a1 a2 a3 a4 a5 a6 a7 a8 a9 a10 a11 none a13 a14 a15 none a17 a18 a19 a20) τ = .ok (.fr ((List.range (J.length - 1)).map fun _ => PyData.bool true)) (EQ a1 a2 a3 a4 a5 a6 a7 a8 a9 a10 a11 none a13 a14 a15 none a17 a18 a19 a20) τ := by
  subst h1 h20
  have at1 : ∀ n, n < J.length → atI (eL J) (n : Int) = some (.int (endN J n)) := fun n hn => by
    rw [at_nat (by simpa using hn)]; simp [endN, rowN, List.getElem?_eq_getElem hn]
  have hJl : (eL J).length = J.length := by simp
  refine comp_map (l := List.range (J.length - 1)) (φ := fun (k : Nat) => PyData.int k) (env1 := EQ (sD (iT times)) a2 a3 a4 a5 a6 a7 a8 a9 a10 a11 none a13 a14 a15 none a17 a18 a19 (sO (eL J))) (envs := fun k => EQ (sD (iT times)) a2 a3 a4 a5 a6 a7 a8 a9 a10 a11 none a13 a14 a15 none a17 a18 (sI (k : Nat)) (sO (eL J))) ?_ (by rcases h19 with rfl | ⟨x, rfl⟩ <;> rfl) (by simp; omega) (fun a _ => rfl) (fun a _ => rfl) (by rcases h19 with rfl | ⟨x, rfl⟩ <;> rfl) (fun a _ => by rcases h19 with rfl | ⟨x, rfl⟩ <;> rfl) fun k hk => ?_
  · have r := range_it (n := J.length - 1) (by omega)
    have r2 : itemsD .range1 [.int ((J.length : Int) - 1)] = some ((List.range (J.length - 1)).map fun (k : Nat) => PyData.int k) := by
      by_cases c : J.length = 0
      · rw [c]; rfl
      · rw [show (J.length : Int) - 1 = ((J.length - 1 : Nat) : Int) by omega]
        exact r
    generalize ((List.range (J.length - 1)).map fun (k : Nat) => PyData.int k) = L at *
    generalize eL J = E at *
    simp [exs, ex, ev, evA, evT, evP, evO, evI, look_br, look_own, share_br, slotOf_br, setAll, shareAll, EQ, hJl, r2]
  · simp at hk
    have y1 := at1 k (by omega)
    have y2 := at1 (k + 1) (by omega)
    have := hle k (by omega)
    have m := max_bl h0
    rw [show ((k + 1 : Nat) : Int) = (k : Int) + 1 by omega] at y2
    generalize eL J = E at *
    unfold K_law_queues_right_0
    refine ⟨.sh (.d (.bool true)), ?_, rfl⟩
    simp [exs, ex, ev, evA, evT, evP, evO, evI, look_br, look_own, share_br, slotOf_br, setAll, shareAll, EQ, y1, y2, m]
    omega
theorem q_late2 {J : List (List Int)} {times comes : List Int} (h1 : a1 = sD (iT times)) (h5 : a5 = sD (iT comes)) (h20 : a20 = sO (eL J)) (hJ : J.length ≤ 100) (hJc : J.length = comes.length) (hle : ∀ n, n < J.length → comes[n]?.getD 0 + times.sum ≤ endN J n) (h19 : a19 = none ∨ ∃ x, a19 = sD x) : ev Φ C_law_queues_right_1 (EQ a1 a2 a3 a4 a5 a6 a7 a8 a9 a10 a11 none a13 a14 a15 none a17 a18 a19 a20) τ = .ok (.fr ((List.range J.length).map fun _ => PyData.bool true)) (EQ a1 a2 a3 a4 a5 a6 a7 a8 a9 a10 a11 none a13 a14 a15 none a17 a18 a19 a20) τ := by
  subst h1 h20 h5
  have at1 : ∀ n, n < J.length → atI (eL J) (n : Int) = some (.int (endN J n)) := fun n hn => by
    rw [at_nat (by simpa using hn)]; simp [endN, rowN, List.getElem?_eq_getElem hn]
  have hJl : (eL J).length = J.length := by simp
  refine comp_map (l := List.range J.length) (φ := fun (k : Nat) => PyData.int k) (env1 := EQ (sD (iT times)) a2 a3 a4 (sD (iT comes)) a6 a7 a8 a9 a10 a11 none a13 a14 a15 none a17 a18 a19 (sO (eL J))) (envs := fun k => EQ (sD (iT times)) a2 a3 a4 (sD (iT comes)) a6 a7 a8 a9 a10 a11 none a13 a14 a15 none a17 a18 (sI (k : Nat)) (sO (eL J))) ?_ (by rcases h19 with rfl | ⟨x, rfl⟩ <;> rfl) (by simp; omega) (fun a _ => rfl) (fun a _ => rfl) (by rcases h19 with rfl | ⟨x, rfl⟩ <;> rfl) (fun a _ => by rcases h19 with rfl | ⟨x, rfl⟩ <;> rfl) fun k hk => ?_
  · have r := range_it (n := J.length) (by omega)
    generalize ((List.range J.length).map fun (k : Nat) => PyData.int k) = L at *
    generalize eL J = E at *
    simp [exs, ex, ev, evA, evT, evP, evO, evI, look_br, look_own, share_br, slotOf_br, setAll, shareAll, EQ, hJl, r]
  · simp at hk
    have y1 := at1 k (by omega)
    have y2 : atI (iL comes) (k : Int) = some (.int (comes[k]?.getD 0)) := by
      rw [at_nat (by simp; omega)]; simp [List.getElem?_eq_getElem (show k < comes.length by omega)]
    have := hle k (by omega)
    generalize eL J = E at *
    generalize comes[k]?.getD 0 = Q at *
    unfold K_law_queues_right_1
    refine ⟨.sh (.d (.bool true)), ?_, rfl⟩
    simp [exs, ex, ev, evA, evT, evP, evO, evI, look_br, look_own, share_br, slotOf_br, setAll, shareAll, EQ, y1, y2, sum_bl]
    omega
end
end K42

set_option Elab.async false
set_option linter.all false
set_option maxRecDepth 100000
set_option maxHeartbeats 1000000
/-! Dv26: reckoning in place: only what comes first is looked at; comprehensions as rewriting rules. -/
namespace Dv
open PySem PySem.Spec PyProof.Rows L2
theorem tg_n (i : Nat) (x : D) (env : Env) : setTg (.name i) x env = some (env.set i (some (.sh (.d x)))) := by rw [setTg]
theorem tg_t (ts : List Tg) (xs : List D) (env : Env) : setTg (.tup ts) (.tuple xs) env = setTgs ts xs env := by rw [setTg]
theorem tgs_n (env : Env) : setTgs [] [] env = some env := by rw [setTgs]
theorem tgs_c (t : Tg) (ts : List Tg) (x : D) (xs : List D) (env : Env) : setTgs (t :: ts) (x :: xs) env = (setTg t x env).bind fun e => setTgs ts xs e := by rw [setTgs]
/-- a value, shared -/
def evD (Φ : Orc) (e : E) (env : Env) (τ : Tp) : Dv.R Va := (ev Φ e env τ).bind fun rv e t => of? (share e rv) fun p => .ok p.1 p.2 t
theorem evD_ok {Φ : Orc} {e : E} {env e2 : Env} {τ t2 : Tp} {v : Va} (h : evD Φ e env τ = .ok v e2 t2) : ∃ rv e1, ev Φ e env τ = .ok rv e1 t2 ∧ share e1 rv = some (v, e2) := by
  unfold evD at h
  cases h1 : ev Φ e env τ with
  | ok rv e1 t1 =>
    rw [h1] at h
    simp only [bind_r] at h
    cases h2 : share e1 rv with
    | none => rw [h2] at h; simp at h
    | some p =>
      rw [h2] at h
      simp only [of_some, R.ok.injEq] at h
      obtain ⟨h3, h4, h5⟩ := h
      subst h3 h4 h5
      exact ⟨rv, e1, rfl, h2⟩
  | err c t => rw [h1] at h; simp at h
  | stuck => rw [h1] at h; simp at h
section
variable {Φ : Orc} {env : Env} {τ : Tp}
theorem comp_loopD {α : Type} {φ : α → D} {p : α → Bool} {g : α → D} {elt : E} {cond : T} {tg : Tg} {vs : List Nat} :
    ∀ (l : List α) (acc : List D) (env' : Env), (∀ a ∈ l, ∃ e2, setTg tg (φ a) (wipeE env vs) = some e2 ∧ wipeE e2 vs = wipeE env vs ∧ backE env e2 vs = env ∧ evT Φ cond e2 τ = .ok (p a) e2 τ ∧ (p a = true → evD Φ elt e2 τ = .ok (.d (g a)) e2 τ)) →
    wipeE env' vs = wipeE env vs → backE env env' vs = env →
    ∃ e2, compLoop (ev Φ elt) (evT Φ cond) tg vs (l.map φ) acc env' τ = .ok (acc ++ (l.filter p).map g) e2 τ ∧ backE env e2 vs = env
  | [], acc, env', _, _, hb => ⟨env', by simp [compLoop], hb⟩
  | a :: l, acc, env', hs, h0, hb => by
    obtain ⟨e2, h1, h2, h3, h4, h5⟩ := hs a List.mem_cons_self
    rw [List.map_cons, compLoop, h0, h1]
    dsimp only
    rw [h4]
    cases hp : p a with
    | false =>
      obtain ⟨e3, k1, k2⟩ := comp_loopD l acc e2 (fun b hb => hs b (List.mem_cons_of_mem _ hb)) h2 h3
      exact ⟨e3, by dsimp only; rw [k1]; simp [List.filter, hp], k2⟩
    | true =>
      have h5 := h5 hp
      obtain ⟨rv, e1, k3, k4⟩ := evD_ok h5
      dsimp only
      rw [k3]
      dsimp only
      rw [k4]
      obtain ⟨e3, k1, k2⟩ := comp_loopD l (acc ++ [g a]) e2 (fun b hb => hs b (List.mem_cons_of_mem _ hb)) h2 h3
      exact ⟨e3, by dsimp only; rw [k1]; simp [List.filter, hp], k2⟩
/-- a comprehension with a condition, in place -/
theorem comp_if {e : E} {α : Type} (l : List α) (φ : α → D) (p : α → Bool) (g : α → D) {elt : E} {tg : Tg} {ik : IK} {its : Es} {cond : T} {own : List (Str × Nat)} (he : e = .comp elt tg ik its cond own)
    (hit : evI Φ ik its env τ = .ok (l.map φ) env τ) (hno : (noOwn env (own.map (·.2)) && decide (l.length ≤ 100000)) = true) (hb0 : backE env env (own.map (·.2)) = env)
    (hs : ∀ a ∈ l, ∃ e2, setTg tg (φ a) (wipeE env (own.map (·.2))) = some e2 ∧ wipeE e2 (own.map (·.2)) = wipeE env (own.map (·.2)) ∧ backE env e2 (own.map (·.2)) = env ∧ evT Φ cond e2 τ = .ok (p a) e2 τ ∧ (p a = true → evD Φ elt e2 τ = .ok (.d (g a)) e2 τ)) :
    ev Φ e env τ = .ok (.fr ((l.filter p).map g)) env τ := by
  subst he
  rw [Bool.and_eq_true, decide_eq_true_eq] at hno
  rw [comp_evI, hit]
  simp only [bind_r, hno.1, okLen, List.length_map, hno.2, decide_true, Bool.and_self, if_true]
  obtain ⟨e2, h1, h2⟩ := comp_loopD l [] env hs rfl hb0
  rw [h1]
  simp only [bind_r, List.nil_append, h2]
/-- without a condition -/
theorem comp_in {e : E} {α : Type} (l : List α) (φ : α → D) (g : α → D) {elt : E} {tg : Tg} {ik : IK} {its : Es} {own : List (Str × Nat)} (he : e = .comp elt tg ik its .yes own)
    (hit : evI Φ ik its env τ = .ok (l.map φ) env τ) (hno : (noOwn env (own.map (·.2)) && decide (l.length ≤ 100000)) = true) (hb0 : backE env env (own.map (·.2)) = env)
    (hs : ∀ a ∈ l, ∃ e2, setTg tg (φ a) (wipeE env (own.map (·.2))) = some e2 ∧ wipeE e2 (own.map (·.2)) = wipeE env (own.map (·.2)) ∧ backE env e2 (own.map (·.2)) = env ∧ evD Φ elt e2 τ = .ok (.d (g a)) e2 τ) :
    ev Φ e env τ = .ok (.fr (l.map g)) env τ := by
  have := comp_if (Φ := Φ) (env := env) (τ := τ) l φ (fun _ => true) g he hit hno hb0 fun a ha => by
    obtain ⟨e2, h1, h2, h3, h4⟩ := hs a ha
    exact ⟨e2, h1, h2, h3, by simp [evT], fun _ => h4⟩
  rw [this, show l.filter (fun _ => true) = l from List.filter_eq_self.mpr (by simp)]
/-- over a list of one's own, which is shared by it -/
theorem comp_own {e : E} {α : Type} (l : List α) (φ : α → D) (p : α → Bool) (g : α → D) {elt : E} {tg : Tg} {i : Nat} {cond : T} {own : List (Str × Nat)} (he : e = .comp elt tg .seq (.cons (.var i) .nil) cond own)
    (hi : env[i]? = some (some (.own (l.map φ)))) (hno : (noOwn (env.set i (sD (.list (l.map φ)))) (own.map (·.2)) && decide (l.length ≤ 100000)) = true) (hb0 : backE (env.set i (sD (.list (l.map φ)))) (env.set i (sD (.list (l.map φ)))) (own.map (·.2)) = env.set i (sD (.list (l.map φ))))
    (hs : ∀ a ∈ l, ∃ e2, setTg tg (φ a) (wipeE (env.set i (sD (.list (l.map φ)))) (own.map (·.2))) = some e2 ∧ wipeE e2 (own.map (·.2)) = wipeE (env.set i (sD (.list (l.map φ)))) (own.map (·.2)) ∧ backE (env.set i (sD (.list (l.map φ)))) e2 (own.map (·.2)) = env.set i (sD (.list (l.map φ))) ∧ evT Φ cond e2 τ = .ok (p a) e2 τ ∧ (p a = true → evD Φ elt e2 τ = .ok (.d (g a)) e2 τ)) :
    ev Φ e env τ = .ok (.fr ((l.filter p).map g)) (env.set i (sD (.list (l.map φ)))) τ := by
  subst he
  rw [Bool.and_eq_true, decide_eq_true_eq] at hno
  have hit : evI Φ .seq (.cons (.var i) .nil) env τ = .ok (l.map φ) (env.set i (sD (.list (l.map φ)))) τ := by
    simp [evI, evA, ev, hi, share_own hi, shareAll]
  rw [comp_evI, hit]
  simp only [bind_r, hno.1, okLen, List.length_map, hno.2, decide_true, Bool.and_self, if_true]
  obtain ⟨e2, h1, h2⟩ := comp_loopD l [] _ hs rfl hb0
  rw [h1]
  simp only [bind_r, List.nil_append, h2]
/-! draws: what is drawn depends on the tape alone -/
def Chain {α β : Type} (P : α → β → Tp → Tp → Prop) : List α → List β → Tp → Tp → Prop
  | [], [], τ, τ' => τ' = τ
  | a :: l, y :: ys, τ, τ' => ∃ τ1, P a y τ τ1 ∧ Chain P l ys τ1 τ'
  | _, _, _, _ => False
theorem chain_of {α β : Type} {P : α → β → Tp → Tp → Prop} {Q : α → β → Prop} {k : Nat} : ∀ (l : List α) (n : Nat) (τ : Tp), Fx.Tk (n + l.length * k) τ → (∀ a ∈ l, ∀ n τ, Fx.Tk (n + k) τ → ∃ y τ', P a y τ τ' ∧ Q a y ∧ Fx.Tk n τ') →
    ∃ ys τ', Chain P l ys τ τ' ∧ ys.length = l.length ∧ (∀ p ∈ l.zip ys, Q p.1 p.2) ∧ Fx.Tk n τ'
  | [], n, τ, h, _ => ⟨[], τ, rfl, rfl, by simp, by simpa using h⟩
  | a :: l, n, τ, h, st => by
    obtain ⟨y, τ1, p, q, t1⟩ := st a List.mem_cons_self (n + l.length * k) τ (h.mono (by rw [List.length_cons, Nat.add_mul, Nat.one_mul]; omega))
    obtain ⟨ys, τ2, c, e, f, t2⟩ := chain_of l n τ1 t1 fun b hb => st b (List.mem_cons_of_mem _ hb)
    refine ⟨y :: ys, τ2, ⟨τ1, p, c⟩, by simp [e], fun z hz => ?_, t2⟩
    rw [List.zip_cons_cons] at hz
    rcases List.mem_cons.mp hz with rfl | hz
    · exact q
    · exact f z hz
theorem chain_loop {α β : Type} {φ : α → D} {ψ : β → D} {P : α → β → Tp → Tp → Prop} {elt : E} {tg : Tg} {vs : List Nat} :
    ∀ (l : List α) (ys : List β) (τ τ' : Tp) (acc : List D) (env' : Env), Chain P l ys τ τ' → (∀ a ∈ l, ∀ y τ τ', P a y τ τ' → ∃ e2, setTg tg (φ a) (wipeE env vs) = some e2 ∧ wipeE e2 vs = wipeE env vs ∧ backE env e2 vs = env ∧ evD Φ elt e2 τ = .ok (.d (ψ y)) e2 τ') →
    wipeE env' vs = wipeE env vs → backE env env' vs = env →
    ∃ e2, compLoop (ev Φ elt) (evT Φ .yes) tg vs (l.map φ) acc env' τ = .ok (acc ++ ys.map ψ) e2 τ' ∧ backE env e2 vs = env
  | [], [], τ, τ', acc, env', hc, _, _, hb => by
    cases hc
    exact ⟨env', by simp [compLoop], hb⟩
  | [], _ :: _, _, _, _, _, hc, _, _, _ => by cases hc
  | _ :: _, [], _, _, _, _, hc, _, _, _ => by cases hc
  | a :: l, y :: ys, τ, τ', acc, env', hc, hs, h0, hb => by
    obtain ⟨τ1, c1, c2⟩ := hc
    obtain ⟨e2, h1, h2, h3, h5⟩ := hs a List.mem_cons_self y τ τ1 c1
    obtain ⟨rv, e1, k3, k4⟩ := evD_ok h5
    have ty : ∀ e, evT Φ .yes e τ = .ok true e τ := fun e => by simp only [evT]
    rw [List.map_cons, compLoop, h0, h1]
    dsimp only
    rw [ty]
    dsimp only
    rw [k3]
    dsimp only
    rw [k4]
    obtain ⟨e3, k1, k2⟩ := chain_loop l ys τ1 τ' (acc ++ [ψ y]) e2 c2 (fun b hb => hs b (List.mem_cons_of_mem _ hb)) h2 h3
    exact ⟨e3, by dsimp only; rw [k1]; simp, k2⟩
/-- a comprehension that draws, in place -/
theorem comp_ch {e : E} {α β : Type} {P : α → β → Tp → Tp → Prop} {l : List α} {ys : List β} {τ' τ1 : Tp} (hc : Chain P l ys τ1 τ') (φ : α → D) (ψ : β → D) {elt : E} {tg : Tg} {ik : IK} {its : Es} {own : List (Str × Nat)} (he : e = .comp elt tg ik its .yes own)
    (hit : evI Φ ik its env τ = .ok (l.map φ) env τ1) (hno : (noOwn env (own.map (·.2)) && decide (l.length ≤ 100000)) = true) (hb0 : backE env env (own.map (·.2)) = env)
    (hs : ∀ a ∈ l, ∀ y τ τ', P a y τ τ' → ∃ e2, setTg tg (φ a) (wipeE env (own.map (·.2))) = some e2 ∧ wipeE e2 (own.map (·.2)) = wipeE env (own.map (·.2)) ∧ backE env e2 (own.map (·.2)) = env ∧ evD Φ elt e2 τ = .ok (.d (ψ y)) e2 τ') :
    ev Φ e env τ = .ok (.fr (ys.map ψ)) env τ' := by
  subst he
  rw [Bool.and_eq_true, decide_eq_true_eq] at hno
  rw [comp_evI, hit]
  simp only [bind_r, hno.1, okLen, List.length_map, hno.2, decide_true, Bool.and_self, if_true]
  obtain ⟨e2, h1, h2⟩ := chain_loop l ys τ1 τ' [] env hc hs rfl hb0
  rw [h1]
  simp only [bind_r, List.nil_append, h2]
end
end Dv

set_option Elab.async false
set_option linter.all false
set_option maxRecDepth 100000
set_option maxHeartbeats 4000000
/-! K42pp: the queues' law. -/
namespace K42
open PySem PySem.Spec PyProof.Rows L2 Dv
open Fx (fr Sm Tk)
theorem asc_map {comes : List Int} (h : Asc comes) {g : Int → Int} (hg : ∀ a b, a ≤ b → g a ≤ g b) : Asc (comes.map g) := by
  intro p hp
  have e : (comes.map g).dropLast.zip (comes.map g).tail = (comes.dropLast.zip comes.tail).map fun p => (g p.1, g p.2) := by
    rw [← List.map_dropLast, ← List.map_tail, List.zip_map]
    rfl
  rw [e] at hp
  obtain ⟨q, hq, rfl⟩ := List.mem_map.mp hp
  exact hg _ _ (h q hq)
theorem ot_perm {times : List Int} {order : List Nat} (h : order.Perm (List.range times.length)) : (order.map fun k => times[k]?.getD 0).Perm times := by
  refine (h.map _).trans (List.Perm.of_eq ?_)
  refine List.ext_getElem (by simp) fun i h1 h2 => ?_
  simp [List.getElem?_eq_getElem h2]
theorem ch_perm {times ot : List Int} {w : Nat} {back : Int} (h : Ch times w back) (p : ot.Perm times) : Ch ot w back :=
  ⟨by rw [p.length_eq]; exact h.l1, by rw [p.length_eq]; exact h.l2, fun t ht => h.t0 t (p.mem_iff.mp ht), h.w1, h.w2, h.b0, h.b1⟩
theorem eL_same {J J' : List (List Int)} (hl : J.length = J'.length) (h : ∀ n, n < J.length → endN J n = endN J' n) : J.map (fun r => r.getLastD 0) = J'.map fun r => r.getLastD 0 := by
  refine List.ext_getElem (by simp [hl]) fun i h1 h2 => ?_
  have := h i (by simpa using h1)
  simp only [List.length_map] at h1 h2
  simp only [endN, rowN, List.getElem?_eq_getElem h1, List.getElem?_eq_getElem h2, Option.getD_some] at this
  simpa using this
theorem wait_eq (times : List Int) (w : Nat) (back : Int) (comes : List Int) : waitF times w back comes = (((jobsF times w back comes).map fun r => r.getLastD 0).zip comes).map fun p => p.1 - p.2 - times.sum := by
  unfold waitF
  rw [List.zip_map_left, List.map_map]
  rfl
theorem lay_eL (J : List (List Int)) : Lay 2 (.list (eL J)) := lay_list fun x hx => by
  obtain ⟨r, _, rfl⟩ := List.mem_map.mp hx
  exact lay_int _
theorem queues_rest {times : List Int} {w : Nat} {back : Int} {comes : List Int} {order : List Nat} {now : Int} {x : D} {τ : Tp} (h : Ch times w back) (h8 : ∀ t ∈ times, t ≤ 8) (hb : back ≤ 11) (hl : comes.length ≤ 15) (hc : ∀ c ∈ comes, 0 ≤ c ∧ c ≤ 1000) (ha : Asc comes) (ho : order.Perm (List.range times.length)) (ht : Tk 10 τ) :
    ∃ τ', exs Φ (drp 7 A_law_queues_right) (EQ (sD (iT times)) (sD x) (sI w) (sI back) (sD (iT comes)) (sI now) (sO []) (sO (nI order)) none none none none none none none none none none none none) τ = .ret (.d (.bool true)) τ' := by
  have hoL : order.length = times.length := by rw [ho.length_eq]; simp
  have l2 := h.l2
  have op := ot_perm ho
  have cO := q_other (sD (iT times)) (sI w) (sI back) (sD (iT comes)) (sI now) (sO []) (sO (nI order)) none none none none none none none none none none τ (times := times) (order := order) rfl rfl (fun k hk => by have := ho.mem_iff.mp hk; simpa using this) (by omega) x
  generalize hot : (order.map fun k => times[k]?.getD 0) = ot at *
  have h' := ch_perm h op
  have hs := perm_sum op
  have hm := perm_mx h'.ne op
  have j1 := fun τ => jobs_ok h (by omega) ha τ
  have j2 := fun τ => jobs_ok h' (by omega) ha τ
  have hc0 : ∀ c ∈ comes, 0 ≤ c := fun c hx => (hc c hx).1
  have eo := end_order h' h hs hm hc0 (asc_get ha)
  have L1 := jobs_len times w back comes
  have L2 := jobs_len ot w back comes
  have eL0 := eL_same (by rw [L1, L2]) (fun n hn => eo n (by rw [L2] at hn; exact hn))
  have eLe : eL (jobsF ot w back comes) = eL (jobsF times w back comes) := by
    have := congrArg (List.map PyData.int) eL0
    rw [List.map_map, List.map_map] at this
    exact this
  have w1 := fun τ => waiting_ok h (by omega) ha τ
  have w2 := fun τ => waiting_ok h' (by omega) ha τ
  have we : waitF ot w back comes = waitF times w back comes := by rw [wait_eq, wait_eq, eL0, hs]
  rw [we] at w2
  have p1 := fun τ => pace_ok h τ
  have p2 := fun τ => pace_ok h' τ
  rw [best_same hs hm] at p2
  have lw1 := fun τ => least_ok (times := times) (back := back) (fun w a b => ⟨h.l1, h.l2, h.t0, a, b, h.b0, h.b1⟩) τ
  have lw2 := fun τ => least_ok (times := ot) (back := back) (fun w a b => ⟨h'.l1, h'.l2, h'.t0, a, b, h.b0, h.b1⟩) τ
  rw [least_same hs hm] at lw2
  have hLe : Lay 1 (leastF times back) := by unfold leastF; split; exact lay_int _; exact lay_none
  have hLJ := lay_eL (jobsF times w back comes)
  have hne : ∀ (ts : List Int), ts ≠ [] → ∀ r ∈ jobsF ts w back comes, r ≠ [] := fun ts h0 r hr => List.length_pos_iff.mp (by rw [jobs_wide ts w back comes r hr]; exact List.length_pos_iff.mpr h0)
  have n1 := hne times h.ne
  have n2 := hne ot h'.ne
  obtain ⟨b0, τ1, e1, b1, b2, t1⟩ := Fx.draw (Φ := Φ) Φ_law_take (n := 9) (many := 30) ht (by decide) (by decide)
  obtain ⟨k0, τ2, e2, k1, k2, t2⟩ := Fx.draw (Φ := Φ) Φ_law_take (n := 8) (many := 2) t1 (by decide) (by decide)
  simp only [EQ] at cO
  unfold A_law_queues_right
  simp only [drp]
  simp [exs, ex, ev, evA, evT, evP, evO, evI, look_br, look_own, share_br, slotOf_br, setAll, shareAll, EQ, cO, j1, j2]
  rw [q_last _ _ _ _ _ _ _ _ _ _ _ _ _ _ _ _ _ _ _ (J := jobsF times w back comes) (by omega) n1 rfl]
  simp [exs, ex, ev, evA, evT, evP, evO, evI, look_br, look_own, share_br, slotOf_br, setAll, shareAll, EQ]
  rw [q_last2 _ _ _ _ _ _ _ _ _ _ _ _ _ _ _ _ _ _ _ (J := jobsF ot w back comes) (by omega) n2 rfl]
  rw [eLe]
  simp [exs, ex, ev, evA, evT, evP, evO, evI, look_br, look_own, share_br, slotOf_br, setAll, shareAll, EQ, cmp_ne_self hLJ (by decide), w1, w2, cmp_ne_self (lay_iT _) (by decide), p1, p2, lw1, lw2, cmp_ne_fr, cmp_ne_self hLe (by decide), e1, e2]
  have hw1 := h.w1
  have hw2 := h.w2
  have hb0 := h.b0
  have J1 : ∀ r ∈ jobsF times w back comes, r.length ≤ 100 := fun r hr => by rw [jobs_wide times w back comes r hr]; omega
  rw [q_late _ _ _ _ _ _ _ _ _ _ _ _ _ _ _ _ _ _ _ (l := comes) (b := b0) rfl rfl (by omega)]
  have j3 := fun τ => jobs_ok h (comes := comes.map (· + b0)) (by rw [List.length_map]; omega) (asc_map ha fun a b hab => by omega) τ
  rw [jobs_later h.ne hw1] at j3
  generalize hlate : (comes.map (· + b0)) = late at *
  simp [exs, ex, ev, evA, evT, evP, evO, evI, look_br, look_own, share_br, slotOf_br, setAll, shareAll, j3]
  clear j3 hlate
  rw [q_lates _ _ _ _ _ _ _ _ _ _ _ _ _ _ _ _ _ _ _ (J := jobsF times w back comes) (b := b0) rfl rfl (by omega) J1]
  generalize hlj : ((jobsF times w back comes).map (·.map (· + b0))) = lj at *
  simp [exs, ex, ev, evA, evT, evP, evO, evI, look_br, look_own, share_br, slotOf_br, setAll, shareAll, cmp_ne_self (lay_iTT lj) (by decide)]
  clear hlj
  have g1 : Ch (times.map ((1 + k0) * ·)) w ((1 + k0) * back) := ⟨by rw [List.length_map]; exact h.l1, by rw [List.length_map]; exact h.l2, fun t ht => by
    obtain ⟨u, hu, rfl⟩ := List.mem_map.mp ht
    have a1 := (h.t0 u hu).1
    have a2 := h8 u hu
    rcases (show k0 = 0 ∨ k0 = 1 by omega) with rfl | rfl <;> omega, h.w1, h.w2, by rcases (show k0 = 0 ∨ k0 = 1 by omega) with rfl | rfl <;> omega, by rcases (show k0 = 0 ∨ k0 = 1 by omega) with rfl | rfl <;> omega⟩
  have bt : ∀ u, -1000000 ≤ u → u ≤ 1000000 → bitsOk (1 + k0) u = true := fun u u1 u2 => Fx.bits_of (by omega) (by omega)
  have j4 := fun τ => jobs_ok g1 (comes := comes.map ((1 + k0) * ·)) (by rw [List.length_map]; omega) (asc_map ha fun a b hab => by rcases (show k0 = 0 ∨ k0 = 1 by omega) with rfl | rfl <;> omega) τ
  rw [jobs_mul h.ne hw1 _ (by omega)] at j4
  have p3 := fun τ => pace_ok g1 τ
  rw [best_mul (by omega) h.ne] at p3
  have lt := fun τ => ltimes_ok h.smB (show Sm 8 ((1 + k0 : Int) : Rat) from Sm.int (by omega) (by decide)) (by decide) τ
  rw [Rat.mul_comm] at lt
  rw [q_mul1 _ _ _ _ _ _ _ _ _ _ _ _ _ _ _ _ _ _ _ (l := times) (b := 1 + k0) rfl rfl (by omega) (fun u hu => by have := h8 u hu; have := (h.t0 u hu).1; exact bt u (by omega) (by omega))]
  generalize hgt : (times.map ((1 + k0) * ·)) = gt at *
  simp [exs, ex, ev, evA, evT, evP, evO, evI, look_br, look_own, share_br, slotOf_br, setAll, shareAll, bin_mul, bt back (by omega) (by omega)]
  rw [q_mul5 _ _ _ _ _ _ _ _ _ _ _ _ _ _ _ _ _ _ _ (l := comes) (b := 1 + k0) rfl rfl (by omega) (fun u hu => by have := hc u hu; exact bt u (by omega) (by omega))]
  generalize hgc : (comes.map ((1 + k0) * ·)) = gc at *
  simp [exs, ex, ev, evA, evT, evP, evO, evI, look_br, look_own, share_br, slotOf_br, setAll, shareAll, j4]
  clear j4
  rw [q_muls _ _ _ _ _ _ _ _ _ _ _ _ _ _ _ _ _ _ _ (J := jobsF times w back comes) (b := 1 + k0) rfl rfl (by omega) J1 (fun r hr u hu => by have := jobs_hi h hc hl r hr u hu; exact bt u (by omega) (by omega))]
  generalize ((jobsF times w back comes).map (·.map ((1 + k0) * ·))) = lj2 at *
  simp [exs, ex, ev, evA, evT, evP, evO, evI, look_br, look_own, share_br, slotOf_br, setAll, shareAll, cmp_ne_self (lay_iTT lj2) (by decide)]
  subst hgt
  rw [q_mul1b _ _ _ _ _ _ _ _ _ _ _ _ _ _ _ _ _ _ _ (l := times) (b := 1 + k0) rfl rfl (by omega) (fun u hu => by have := h8 u hu; have := (h.t0 u hu).1; exact bt u (by omega) (by omega))]
  generalize hgt : (times.map ((1 + k0) * ·)) = gt at *
  rw [← Fx.fr_int] at lt
  simp [exs, ex, ev, evA, evT, evP, evO, evI, look_br, look_own, share_br, slotOf_br, setAll, shareAll, bin_mul, bt back (by omega) (by omega), p3, p1, lt, cmp_ne_fr]
  clear p3 lt
  have alltt : ∀ (l : List Nat), (l.all fun _ => true) = true := fun l => by rw [List.all_eq_true]; intros; rfl
  by_cases hw6 : w < 6
  · have h6 : (w : Int) < 6 := by omega
    have hW : Ch times (w + 1) back := ⟨h.l1, h.l2, h.t0, by omega, by omega, h.b0, h.b1⟩
    have j5 := fun τ => jobs_ok hW (comes := comes) (by omega) ha τ
    rw [show ((w + 1 : Nat) : Int) = (w : Int) + 1 by omega] at j5
    have r := range_it (n := comes.length) (by omega)
    have LW := jobs_len times (w + 1) back comes
    obtain ⟨e, t, hL, rfl, s19, h19, rfl⟩ := for_P (φ := fun (k : Nat) => PyData.int k) (f := exs Φ B_law_queues_right_0) (tg := .name 19) (l := List.range comes.length) (env := (EQ (sD (iT times)) (sD x) (sI w) (sI back) (sD (iT comes)) (sI now) (sO []) (sD (.list (nI order))) (sD (.tuple (iL ot))) (sD (iTT (jobsF times w back comes))) (sD (iTT (jobsF ot w back comes))) none (sI b0) (sI (1 + k0)) (sD (iTT lj)) none (sD (iTT lj2)) (sD (iTT (jobsF times (w + 1) back comes))) none none)) (τ := τ2)
      (P := fun i env τ => τ = τ2 ∧ ∃ s19, (s19 = none ∨ ∃ x, s19 = sD x) ∧ env = (EQ (sD (iT times)) (sD x) (sI w) (sI back) (sD (iT comes)) (sI now) (sO []) (sD (.list (nI order))) (sD (.tuple (iL ot))) (sD (iTT (jobsF times w back comes))) (sD (iTT (jobsF ot w back comes))) none (sI b0) (sI (1 + k0)) (sD (iTT lj)) none (sD (iTT lj2)) (sD (iTT (jobsF times (w + 1) back comes))) s19 none)) ⟨rfl, none, .inl rfl, rfl⟩ (by
        rintro i hi env τ ⟨rfl, s19, h19, rfl⟩
        refine ⟨_, rfl, (EQ (sD (iT times)) (sD x) (sI w) (sI back) (sD (iT comes)) (sI now) (sO []) (sD (.list (nI order))) (sD (.tuple (iL ot))) (sD (iTT (jobsF times w back comes))) (sD (iTT (jobsF ot w back comes))) none (sI b0) (sI (1 + k0)) (sD (iTT lj)) none (sD (iTT lj2)) (sD (iTT (jobsF times (w + 1) back comes))) (sI i) none), _, ?_, rfl, _, .inr ⟨_, rfl⟩, rfl⟩
        simp at hi
        simp only [List.getElem_range]
        unfold B_law_queues_right_0
        simp [exs, ex, ev, evA, evT, evP, evO, evI, look_br, look_own, share_br, slotOf_br, setAll, shareAll, EQ]
        rw [q_wide _ _ _ _ _ _ _ _ _ _ _ _ _ _ _ _ _ _ (n := i) (W := jobsF times (w + 1) back comes) (J := jobsF times w back comes) (times := times) rfl rfl rfl rfl (List.getElem?_eq_getElem (show i < (jobsF times (w + 1) back comes).length by omega)) (List.getElem?_eq_getElem (show i < (jobsF times w back comes).length by omega)) (jobs_wide times (w + 1) back comes _ (List.getElem_mem (h := by omega))) (jobs_wide times w back comes _ (List.getElem_mem (h := by omega))) (by omega)
          (leR_get (by
            have := jobs_wider h hW i hi
            unfold rowN at this
            rw [List.getElem?_eq_getElem (by omega), List.getElem?_eq_getElem (by omega)] at this
            exact this)) x]
        simp [exs, ex, ev, evA, evT, evP, evO, evI, look_br, look_own, share_br, slotOf_br, setAll, shareAll, EQ, rb_any _ (boolsD_map2 _ _), show ∀ (l : List Nat), (l.any fun _ => false) = false from fun l => by rw [List.any_eq_false]; intros; simp])
    simp [exs, ex, ev, evA, evT, evP, evO, evI, look_br, look_own, share_br, slotOf_br, setAll, shareAll, h6, j5, r]
    rw [hL]
    simp [exs, ex, ev, evA, evT, evP, evO, evI, look_br, look_own, share_br, slotOf_br, setAll, shareAll]
    rw [q_ends _ _ _ _ _ _ _ _ _ _ _ _ _ _ _ _ _ _ _ (J := jobsF times w back comes) (by omega) n1 rfl]
    simp [exs, ex, ev, evA, evT, evP, evO, evI, look_br, look_own, share_br, slotOf_br, setAll, shareAll, EQ]
    rw [q_gap _ _ _ _ _ _ _ _ _ _ _ _ _ _ _ _ _ _ _ (J := jobsF times w back comes) (times := times) rfl rfl h.ne (by omega) (fun n hn => end_gap h hc0 (asc_get ha) (by rw [L1] at hn; exact hn)) (h19)]
    simp [exs, ex, ev, evA, evT, evP, evO, evI, look_br, look_own, share_br, slotOf_br, setAll, shareAll, EQ, rb_all _ (boolsD_map2 _ _), alltt]
    rw [q_late2 _ _ _ _ _ _ _ _ _ _ _ _ _ _ _ _ _ _ _ (J := jobsF times w back comes) (times := times) (comes := comes) rfl rfl rfl (by omega) L1 (fun n hn => by
      have z1 := end_ge h (n := n) (by rw [L1] at hn; exact hn)
      have z2 := st_come h (times := times) (w := w) (back := back) (comes := comes) (n := n)
      omega) (h19)]
    simp [exs, ex, ev, evA, evT, evP, evO, evI, look_br, look_own, share_br, slotOf_br, setAll, shareAll, EQ, rb_all _ (boolsD_map2 _ _), alltt]
  · have h6 : ¬ (w : Int) < 6 := by omega
    simp [exs, ex, ev, evA, evT, evP, evO, evI, look_br, look_own, share_br, slotOf_br, setAll, shareAll, h6]
    rw [q_ends _ _ _ _ _ _ _ _ _ _ _ _ _ _ _ _ _ _ _ (J := jobsF times w back comes) (by omega) n1 rfl]
    simp [exs, ex, ev, evA, evT, evP, evO, evI, look_br, look_own, share_br, slotOf_br, setAll, shareAll, EQ]
    rw [q_gap _ _ _ _ _ _ _ _ _ _ _ _ _ _ _ _ _ _ _ (J := jobsF times w back comes) (times := times) rfl rfl h.ne (by omega) (fun n hn => end_gap h hc0 (asc_get ha) (by rw [L1] at hn; exact hn)) (.inl rfl)]
    simp [exs, ex, ev, evA, evT, evP, evO, evI, look_br, look_own, share_br, slotOf_br, setAll, shareAll, EQ, rb_all _ (boolsD_map2 _ _), alltt]
    rw [q_late2 _ _ _ _ _ _ _ _ _ _ _ _ _ _ _ _ _ _ _ (J := jobsF times w back comes) (times := times) (comes := comes) rfl rfl rfl (by omega) L1 (fun n hn => by
      have z1 := end_ge h (n := n) (by rw [L1] at hn; exact hn)
      have z2 := st_come h (times := times) (w := w) (back := back) (comes := comes) (n := n)
      omega) (.inl rfl)]
    simp [exs, ex, ev, evA, evT, evP, evO, evI, look_br, look_own, share_br, slotOf_br, setAll, shareAll, EQ, rb_all _ (boolsD_map2 _ _), alltt]
theorem queues_ok {τ0 : Tp} (h0 : Tk 1000 τ0) : ∃ τ', Φ "_law_queues_right" [.tp] τ0 = .ok (.d (.bool true)) τ' := by
  obtain ⟨times, w, back, comes, order, now, x, τ1, hc, ht8, hb11, cl, c0, asc, pm, t1, e⟩ := queues_head h0
  obtain ⟨τ', k⟩ := queues_rest (now := now) (x := x) hc ht8 hb11 cl c0 asc pm t1
  refine ⟨τ', ?_⟩
  rw [Φ_law_queues_right]
  have e2 : Dv.run Φ N_law_queues_right.length A_law_queues_right [.tp] τ0 = match exs Φ A_law_queues_right (EQ none none none none none none none none none none none none none none none none none none none none) τ0 with
    | .ret v τ' => .ok v τ'
    | .nx _ τ' => .ok (.d .none) τ'
    | .err c τ' => .err c τ'
    | _ => .stuck := rfl
  rw [e2, e, k]
end K42

set_option Elab.async false
set_option linter.all false
set_option maxRecDepth 100000
set_option maxHeartbeats 4000000
/-! K42qq: lines drawn; small facts for the law's walk. -/
namespace K42
open PySem PySem.Spec PyProof.Rows L2 Dv
open Fx (fr Sm Tk)
theorem mat_of {n : Nat} {rows : List (List (Option Int))} (h : rows.length = n) (h2 : ∀ r ∈ rows, r.length = n) : matO n (fun i j => (rows[i]?.getD [])[j]?.getD none) = rows := by
  refine List.ext_getElem (by simp [matO, h]) fun i h1 h3 => ?_
  simp only [matO, vecO, List.getElem_map, List.getElem_range]
  have hr := h2 _ (List.getElem_mem h3)
  refine List.ext_getElem (by simp [hr]) fun j h4 h5 => ?_
  simp [List.getElem?_eq_getElem h3, List.getElem?_eq_getElem h5]
/-- an entry drawn -/
def EntP (gaps : Int) (_ : Nat) (y : Option Int) (τ τ' : Tp) : Prop := ∃ d τ1, Φ "_law_take" [.tp, .d (.int gaps)] τ = .ok (.d (.int d)) τ1 ∧ (d = 0 ∧ y = none ∧ τ' = τ1 ∨ d ≠ 0 ∧ ∃ v, Φ "_law_take" [.tp, .d (.int 15)] τ1 = .ok (.d (.int v)) τ' ∧ y = some (v - 4))
theorem zip_snd {α β : Type} {Q : β → Prop} : ∀ {l : List α} {ys : List β}, ys.length = l.length → (∀ p ∈ l.zip ys, Q p.2) → ∀ y ∈ ys, Q y
  | [], [], _, _ => by simp
  | [], _ :: _, h, _ => by simp at h
  | _ :: _, [], h, _ => by simp at h
  | a :: l, y :: ys, h, q => fun z hz => by
    rcases List.mem_cons.mp hz with rfl | hz
    · exact q (a, z) (by simp)
    · exact zip_snd (by simpa using h) (fun p hp => q p (by rw [List.zip_cons_cons]; exact List.mem_cons_of_mem _ hp)) z hz
abbrev lowO (y : Option Int) : Prop := ∀ w, y = some w → -4 ≤ w ∧ w ≤ 10
theorem line_draw {n m : Nat} {τ : Tp} (hm : m ≤ 4) (h : Tk (n + 40) τ) : ∃ (f : Nat → Nat → Option Int) (τ' : Tp), Φ "_law_line" [.tp, .d (.int m)] τ = .ok (.d (oTT (matO m f))) τ' ∧ (∀ i j, lowO (f i j)) ∧ Tk n τ' := by
  obtain ⟨g, τ1, e1, g0, g1, t1⟩ := Fx.draw (Φ := Φ) Φ_law_take (n := n + 39) (many := 4) h (by decide) (by decide)
  have one : ∀ (i : Nat), i ∈ List.range m → ∀ (k : Nat) (τ : Tp), Tk (k + 8) τ → ∃ (row : List (Option Int)) (τ' : Tp), Chain (EntP (2 + g)) (List.range m) row τ τ' ∧ (row.length = m ∧ ∀ y ∈ row, lowO y) ∧ Tk k τ' := fun i _ k τ ht => by
    obtain ⟨ys, τ', c, l, q, t⟩ := chain_of (P := EntP (2 + g)) (Q := fun _ y => lowO y) (k := 2) (List.range m) k τ (ht.mono (by simp; omega)) fun a _ k τ ht => by
      obtain ⟨d, τ2, e2, d0, d1, t2⟩ := Fx.draw (Φ := Φ) Φ_law_take (n := k + 1) (many := 2 + g) ht (by omega) (by omega)
      by_cases hd : d = 0
      · exact ⟨none, τ2, ⟨d, τ2, e2, .inl ⟨hd, rfl, rfl⟩⟩, by simp [lowO], t2.mono (by omega)⟩
      · obtain ⟨v, τ3, e3, v0, v1, t3⟩ := Fx.draw (Φ := Φ) Φ_law_take (n := k) (many := 15) t2 (by decide) (by decide)
        exact ⟨some (v - 4), τ3, ⟨d, τ2, e2, .inr ⟨hd, v, e3, rfl⟩⟩, fun w hw => by cases hw; omega, t3⟩
    exact ⟨ys, τ', c, ⟨by simpa using l, zip_snd l q⟩, t⟩
  obtain ⟨rows, τ', c, l, q, t⟩ := chain_of (P := fun (_ : Nat) row τ τ' => Chain (EntP (2 + g)) (List.range m) row τ τ') (Q := fun _ row => row.length = m ∧ ∀ y ∈ row, lowO y) (k := 8) (List.range m) n τ1 (t1.mono (by simp; omega)) one
  have q2 := zip_snd (Q := fun (row : List (Option Int)) => row.length = m ∧ ∀ y ∈ row, lowO y) l q
  refine ⟨fun i j => (rows[i]?.getD [])[j]?.getD none, τ', ?_, fun i j w hw => ?_, t⟩
  · rw [mat_of (by simpa using l) fun r hr => (q2 r hr).1]
    rw [Φ_law_line]
    simp [exs, ex, ev, evA, evT, evP, evO, evI, look_br, look_own, share_br, slotOf_br, setAll, shareAll, Dv.run, A_law_line, N_law_line, e1]
    have r := range_it (n := m) (by omega)
    rw [comp_ch (e := C_law_line_1) c (fun (i : Nat) => PyData.int i) (fun row => oT row) rfl (by simp [exs, ex, ev, evA, evT, evP, evO, evI, look_br, look_own, share_br, slotOf_br, setAll, shareAll, r]) (by simp [noOwn]; omega) rfl ?_]
    · simp [exs, ex, ev, evA, evT, evP, evO, evI, look_br, look_own, share_br, slotOf_br, setAll, shareAll]
    · intro a ha row τ τ' hP
      refine ⟨_, rfl, rfl, rfl, ?_⟩
      unfold K_law_line_1
      simp [exs, ex, ev, evA, evT, evP, evO, evI, look_br, look_own, share_br, slotOf_br, setAll, shareAll, evD, wipeE]
      rw [comp_ch (e := C_law_line_0) hP (fun (i : Nat) => PyData.int i) oD rfl (by simp [exs, ex, ev, evA, evT, evP, evO, evI, look_br, look_own, share_br, slotOf_br, setAll, shareAll, r]) (by simp [noOwn]; omega) rfl ?_]
      · simp [exs, ex, ev, evA, evT, evP, evO, evI, look_br, look_own, share_br, slotOf_br, setAll, shareAll]
      · rintro b hb y τ τ' ⟨d, τ1, e2, h⟩
        refine ⟨_, rfl, rfl, rfl, ?_⟩
        unfold K_law_line_0
        rcases h with ⟨rfl, rfl, rfl⟩ | ⟨hd, v, e3, rfl⟩
        · simp [exs, ex, ev, evA, evT, evP, evO, evI, look_br, look_own, share_br, slotOf_br, setAll, shareAll, evD, wipeE, e2, oD]
        · simp [exs, ex, ev, evA, evT, evP, evO, evI, look_br, look_own, share_br, slotOf_br, setAll, shareAll, evD, wipeE, e2, hd, e3, oD]
  · simp only [] at hw
    cases h1 : rows[i]? with
    | none => rw [h1] at hw; simp at hw
    | some r =>
      rw [h1] at hw
      simp only [Option.getD_some] at hw
      cases h2 : r[j]? with
      | none => rw [h2] at hw; simp at hw
      | some y =>
        rw [h2] at hw
        simp only [Option.getD_some] at hw
        exact (q2 r (List.mem_of_getElem? h1)).2 y (List.mem_of_getElem? h2) w hw
theorem ln_of {n : Nat} {f : Nat → Nat → Option Int} (h1 : 1 ≤ n) (h2 : n ≤ 6) (h : ∀ i j w, i < n → j < n → f i j = some w → -99 ≤ w ∧ w ≤ 99) : Ln (matO n f) := by
  refine ⟨by rw [matO_len]; exact h1, by rw [matO_len]; exact h2, fun r hr => ?_, fun r hr w hw => ?_⟩
  · obtain ⟨i, _, rfl⟩ := List.mem_map.mp hr
    rw [matO_len, vecO_len]
  · obtain ⟨i, hi, rfl⟩ := List.mem_map.mp hr
    obtain ⟨j, hj, e⟩ := List.mem_map.mp hw
    exact h i j w (List.mem_range.mp hi) (List.mem_range.mp hj) e
/-- sorted rows are the same rows in an order -/
theorem perm_map_inv {α β : Type} {φ : α → β} {ys zs : List β} (h : ys.Perm zs) : ∀ l : List α, zs = l.map φ → ∃ L : List α, L.Perm l ∧ ys = L.map φ := by
  induction h with
  | nil => intro l hl; exact ⟨l, List.Perm.refl _, by rw [← hl]⟩
  | cons x p ih =>
    intro l hl
    cases l with
    | nil => simp at hl
    | cons a l =>
      simp only [List.map_cons, List.cons.injEq] at hl
      obtain ⟨L, h1, h2⟩ := ih l hl.2
      exact ⟨a :: L, h1.cons a, by rw [h2, hl.1]; rfl⟩
  | swap x y l0 =>
    intro l hl
    match l, hl with
    | a :: b :: l, hl =>
      simp only [List.map_cons, List.cons.injEq] at hl
      exact ⟨b :: a :: l, List.Perm.swap a b l, by simp [hl.1, hl.2.1, hl.2.2]⟩
  | trans p q ih1 ih2 =>
    intro l hl
    obtain ⟨L, h1, h2⟩ := ih2 l hl
    obtain ⟨L2, h3, h4⟩ := ih1 L h2
    exact ⟨L2, h3.trans h1, h4⟩
theorem sort_nT (l : List (List Nat)) : ∃ L : List (List Nat), L.Perm l ∧ sortD (l.map nT) = L.map nT := perm_map_inv (List.mergeSort_perm _ _) l rfl
theorem index_nat {k : Nat} : ∀ (l : List Nat), k ∈ l → ((nI l).findIdx? fun z => PyData.eqv z (.int k)) = some (l.idxOf k)
  | [], h => by simp at h
  | a :: l, h => by
    show List.findIdx? _ (PyData.int a :: nI l) = _
    rw [List.findIdx?_cons, eqv_int, List.idxOf_cons]
    by_cases e : a = k
    · subst e; simp
    · have e2 : ¬ (a : Int) = k := by omega
      have e3 : k ∈ l := by
        rcases List.mem_cons.mp h with h | h
        · exact absurd h.symm e
        · exact h
      rw [index_nat l e3]
      have e4 : (a == k) = false := by simp [e]
      simp [e2, e4]
theorem lay_nI (l : List Nat) : Lay 2 (.list (nI l)) := lay_list fun x hx => by
  obtain ⟨i, _, rfl⟩ := List.mem_map.mp hx
  exact lay_int _
theorem index_ok {l : List Nat} {k : Nat} (h : k ∈ l) : prim2 .index (.list (nI l)) (.int k) = some (.sh (.d (.int (l.idxOf k : Nat)))) := by
  simp [prim2, (lay_nI l).shaped (by decide), index_nat l h]
theorem nm_of {n : Nat} {l : List Nat} (h : l.Perm (List.range n)) : Nm n (fun k => l[k]?.getD 0) (fun k => l.idxOf k) := by
  have hl : l.length = n := by simpa using h.length_eq
  have hm : ∀ k, k < n ↔ k ∈ l := fun k => by rw [h.mem_iff]; simp
  have hn : l.Nodup := h.nodup_iff.mpr List.nodup_range
  refine ⟨fun k hk => ?_, fun k hk => ?_, fun k hk => ?_, fun k hk => ?_⟩
  · rw [List.getElem?_eq_getElem (by omega)]
    exact (hm _).mpr (List.getElem_mem _)
  · rw [← hl]; exact List.idxOf_lt_length_of_mem ((hm k).mp hk)
  · rw [List.getElem?_eq_getElem (by omega)]
    exact hn.idxOf_getElem k (by omega)
  · have : l.idxOf k < l.length := List.idxOf_lt_length_of_mem ((hm k).mp hk)
    rw [List.getElem?_eq_getElem this]
    exact List.getElem_idxOf this
theorem min_nat : ∀ (l : List Nat) (x : Nat), (l.map fun (k : Nat) => (k : Int)).foldl min (x : Int) = ((l.foldl min x : Nat) : Int)
  | [], x => rfl
  | a :: l, x => by
    have := min_nat l (min x a)
    simp only [List.map_cons, List.foldl_cons]
    rw [← this]
    congr 1
    omega
theorem rb_minN {l : List Nat} (h : l ≠ []) : bltD .min [.list (nI l)] = some (.sh (.d (.int (mnN l : Nat)))) := by
  cases l with
  | nil => exact absurd rfl h
  | cons x r =>
    have e : intsD (nI (x :: r)) = some ((x : Int) :: r.map fun (k : Nat) => (k : Int)) := intsD_map2 (fun (k : Nat) => (k : Int)) (x :: r)
    rw [rb_min_l _ e]
    unfold minI mnN
    rw [min_nat]
theorem renamed_ok {c names : List Nat} (hc : c ≠ []) (hl : c.length ≤ 100) (hk : ∀ k ∈ c, k < names.length) (τ : Tp) : Φ "_law_renamed" [.d (nT c), .d (.list (nI names))] τ = .ok (.d (nT (renC (fun k => names[k]?.getD 0) c))) τ := by
  rw [Φ_law_renamed]
  simp [exs, ex, ev, evA, evT, evP, evO, evI, look_br, look_own, share_br, slotOf_br, setAll, shareAll, Dv.run, A_law_renamed, N_law_renamed]
  rw [comp_in (e := C_law_renamed_0) c (fun (k : Nat) => PyData.int k) (fun k => PyData.int (names[k]?.getD 0 : Nat)) rfl (by simp [exs, ex, ev, evA, evT, evP, evO, evI, look_br, look_own, share_br, slotOf_br, setAll, shareAll]) (by simp [noOwn]; omega) rfl ?_]
  · have e : (c.map fun k => PyData.int (names[k]?.getD 0 : Nat)) = nI (c.map fun k => names[k]?.getD 0) := by simp [nI]
    rw [e]
    generalize hr : (c.map fun k => names[k]?.getD 0) = row
    have hr0 : row ≠ [] := by rw [← hr]; simpa using hc
    have hrl : row.length ≤ 100 := by rw [← hr]; simpa using hl
    have m := rb_minN hr0
    have i := index_ok (mnN_mem hr0)
    have e1 := cut_from (nI row) (row.idxOf (mnN row))
    have e2 := cut_to (nI row) (row.idxOf (mnN row))
    have e3 : renC (fun k => names[k]?.getD 0) c = row.drop (row.idxOf (mnN row)) ++ row.take (row.idxOf (mnN row)) := by
      unfold renC rotm
      rw [hr]; rfl
    have d1 : (nI row).drop (row.idxOf (mnN row)) = nI (row.drop (row.idxOf (mnN row))) := by simp [nI]
    have d2 : (nI row).take (row.idxOf (mnN row)) = nI (row.take (row.idxOf (mnN row))) := by simp [nI]
    rw [e3]
    rw [d1] at e1
    rw [d2] at e2
    have l1 : (nI (row.drop (row.idxOf (mnN row)))).length + (nI (row.take (row.idxOf (mnN row)))).length ≤ 100000 := by simp [nI]; omega
    have e4 : nT (row.drop (row.idxOf (mnN row)) ++ row.take (row.idxOf (mnN row))) = .tuple (nI (row.drop (row.idxOf (mnN row))) ++ nI (row.take (row.idxOf (mnN row)))) := by simp [nT, nI]
    rw [e4]
    generalize nI (row.drop (row.idxOf (mnN row))) = A at *
    generalize nI (row.take (row.idxOf (mnN row))) = B at *
    generalize nI row = C at *
    simp [exs, ex, ev, evA, evT, evP, evO, evI, look_br, look_own, share_br, slotOf_br, setAll, shareAll, m, i, e1, e2, add_ll _ _ l1]
  · intro k hk2
    refine ⟨_, rfl, rfl, rfl, ?_⟩
    have := hk k hk2
    have e : atI (nI names) (k : Int) = some (.int (names[k]?.getD 0 : Nat)) := by
      rw [at_nat (by simpa [nI] using this)]
      simp [nI, List.getElem?_eq_getElem this]
    unfold K_law_renamed_0
    simp [exs, ex, ev, evA, evT, evP, evO, evI, look_br, look_own, share_br, slotOf_br, setAll, shareAll, evD, wipeE, e]
end K42

set_option Elab.async false
set_option linter.all false
set_option maxRecDepth 100000
set_option maxHeartbeats 4000000
/-! K42rr: names; two lines: the law's walk. -/
namespace K42
open PySem PySem.Spec PyProof.Rows L2 Dv
open Fx (fr Sm Tk)
theorem lay_oF (o : Option Rat) : Lay 2 (oF o) := by
  cases o
  · exact lay_none.mono (by decide)
  · exact lay_fr _
/-- n by n: a comprehension in a comprehension, as tuples -/
theorem row_at {n : Nat} {f : Nat → Nat → Option Int} {i : Nat} (hi : i < n) : atI ((matO n f).map oT) (i : Int) = some (oT (vecO n (f i))) := mat_row hi
theorem vec_eq (n : Nat) (x : Nat → Option Int) : (vecO n x).map oD = (List.range n).map fun j => oD (x j) := by simp [vecO]
theorem mat_eq (n : Nat) (f : Nat → Nat → Option Int) : (matO n f).map oT = (List.range n).map fun i => oT (vecO n (f i)) := by simp [matO]
theorem circ_pos {e : Nat → Nat → Bool} {n : Nat} {c : List Nat} (h : Circ e n c) : c ≠ [] ∧ ∀ k ∈ c, k < n := ⟨(circ_cyc h).ne, (circ_cyc h).lt⟩
theorem circ_short {n : Nat} {f : Nat → Nat → Option Int} (h : Ln (matO n f)) {c : List Nat} (hc : Circ (edge (matO n f)) n c) : c.length ≤ 6 := by
  have e := matO_len n f
  have := (circ_len h (c := c) (by rw [e]; exact hc)).2
  exact this
theorem sort_nT_ok {l : List (List Nat)} (h : ∀ c ∈ l, c ≠ []) (hl : l.length ≤ 100000) : bltD .sorted [.list (l.map nT)] = some (.fr (sortD (l.map nT))) := by
  have : sortOk (l.map nT) = true := by
    unfold sortOk
    rw [Bool.and_eq_true, Bool.or_eq_true]
    refine ⟨.inr ?_, by simpa using hl⟩
    rw [List.all_eq_true]
    intro x hx
    obtain ⟨c, hc, rfl⟩ := List.mem_map.mp hx
    have := h c hc
    cases c with
    | nil => exact absurd rfl this
    | cons a r =>
      show (nI (a :: r)).all isIntD = true
      rw [List.all_eq_true]
      intro x hx
      obtain ⟨k, _, rfl⟩ := List.mem_map.mp hx
      rfl
  show (if sortOk (l.map nT) = true then some (Rv.fr (sortD (l.map nT))) else none) = _
  rw [if_pos this]
theorem lay_sorted (l : List (List Nat)) : Lay 3 (.list (sortD (l.map nT))) := by
  obtain ⟨L, _, e⟩ := sort_nT l
  rw [e]
  exact lay_list fun x hx => by
    obtain ⟨c, _, rfl⟩ := List.mem_map.mp hx
    rw [nT_iT]
    exact lay_iT _
theorem wide_rows {n m : Nat} {f g : Nat → Nat → Option Int} : ((List.range n).map fun i => PyData.tuple ((vecO n (f i)).map oD ++ List.replicate m .none)) ++ ((List.range m).map fun i => PyData.tuple (List.replicate n .none ++ (vecO m (g i)).map oD)) = (matO (n + m) (wideO n m f g)).map oT := by
  refine List.ext_getElem (by simp [matO]) fun i h1 h2 => ?_
  simp at h1
  simp only [matO, List.getElem_map, List.getElem_range]
  by_cases hi : i < n
  · rw [List.getElem_append_left (by simpa using hi)]
    simp only [List.getElem_map, List.getElem_range]
    congr 1
    refine List.ext_getElem (by simp [vecO]) fun j h3 h4 => ?_
    simp [vecO] at h3
    by_cases hj : j < n
    · rw [List.getElem_append_left (by simpa [vecO] using hj)]
      simp [vecO, wideO, hi, hj]
    · rw [List.getElem_append_right (by simp [vecO]; omega)]
      simp [vecO, wideO, hi, hj, oD]
  · rw [List.getElem_append_right (by simp; omega)]
    simp only [List.getElem_map, List.getElem_range, List.length_map, List.length_range]
    congr 1
    refine List.ext_getElem (by simp [vecO]) fun j h3 h4 => ?_
    simp [vecO] at h3
    by_cases hj : j < n
    · rw [List.getElem_append_left (by simpa [vecO] using hj)]
      simp [vecO, wideO, hi, hj, oD]
    · rw [List.getElem_append_right (by simp [vecO]; omega)]
      simp [vecO, wideO, hi, hj]
theorem bin_rep {xs : List D} {k : Nat} (h1 : k ≤ 1000) (h2 : xs.length ≤ 1000) : binD .mul (.tuple xs) (.int k) = some (.sh (.d (.tuple (List.replicate k xs).flatten))) := by
  have e : ((k : Int)).toNat = k := by omega
  have d1 : (0 : Int) ≤ k := by omega
  have d2 : (k : Int) ≤ 1000 := by omega
  simp [binD, d1, d2, h2]
theorem rep_flat (k : Nat) (x : D) : (List.replicate k [x]).flatten = List.replicate k x := by
  induction k with
  | zero => rfl
  | succ k ih => rw [List.replicate_succ, List.flatten_cons, ih]; rfl
abbrev EN (a1 a2 a3 a4 a5 a6 a7 a8 a9 a10 a11 a12 a13 a14 a15 : Option Sl) : Dv.Env := [some (.sh .tp), a1, a2, a3, a4, a5, a6, a7, a8, a9, a10, a11, a12, a13, a14, a15]
theorem names_ok {n m : Nat} {f g : Nat → Nat → Option Int} (hf : Ln (matO n f)) (hg : Ln (matO m g)) (hn4 : n ≤ 4) (hm2 : m ≤ 2) {k0 : Nat} {τ : Tp} (ht : Tk (k0 + 10) τ) : ∃ τ', Φ "_law_names_right" [.tp, .d (oTT (matO n f)), .d (oTT (matO m g))] τ = .ok (.d (.bool true)) τ' ∧ Tk k0 τ' := by
  have n1 : 1 ≤ n := by have := hf.l1; rwa [matO_len] at this
  have lenF : ((matO n f).map oT).length = n := by simp [matO]
  have lenG : ((matO m g).map oT).length = m := by simp [matO]
  have r := range_it (n := n) (by omega)
  have lr : prim1 .listRange (.int n) = some (.fr (nI (List.range n))) := by
    have : n ≤ 100000 := by omega
    simp [prim1, small62_of n (by omega) (by omega), rangeD, nI, this]
  obtain ⟨order, k', τ1, e1, p1, t1, k1⟩ := pop_loop (Bd := B_law_names_right_1) (tg := .name 6) (E := fun k l o => EN (sD (oTT (matO n f))) (sD (oTT (matO m g))) (sI n) l o k none none none none none none none none none) (fun x k l o => rfl) (fun x left order τ τ' a ha e h10 h100 => by
    have c2 : (a : Int) < left.length := by omega
    have sm := small62_of (a : Int) (by omega) (by omega)
    have c3 : (nI left)[a]? = some (.int (left[a] : Nat)) := by simp [nI, List.getElem?_eq_getElem ha]
    have c4 := nI_erase left a
    have c5 : (nI left).length = left.length := by simp [nI]
    have c6 : nI (order ++ [left[a]]) = nI order ++ [.int (left[a] : Nat)] := by simp [nI]
    have c7 : (nI order).length ≤ 100000 := by simp [nI]; omega
    rw [c6, ← c4]
    generalize nI left = Lf at *
    generalize nI order = Od at *
    unfold B_law_names_right_1
    simp [exs, ex, ev, evA, evT, evP, evO, evI, look_br, look_own, share_br, slotOf_br, setAll, shareAll, EN, c5, e, c2, sm, c3, c7]) ((List.range n).map fun (i : Nat) => PyData.int (i : Nat)) k0 τ (List.range n) [] none (ht.mono (by simp; omega)) (by simp) (by simp; omega) (by simp; omega)
  rw [List.nil_append] at p1
  have nm := nm_of p1
  have oL : order.length = n := by simpa using p1.length_eq
  have oM : ∀ i, i < n → i ∈ order := fun i hi => by rw [p1.mem_iff]; simpa using hi
  generalize hι : (fun k => order.idxOf k) = ι at nm
  have hι2 : ∀ i, order.idxOf i = ι i := fun i => by rw [← hι]
  have hR : Ln (matO n (renO ι f)) := ln_of n1 (by omega) fun i j w hi hj hw => by
    have := mat_lo hf (nm.i i hi) (nm.i j hj) hw
    omega
  refine ⟨τ1, ?_, t1⟩
  obtain ⟨o1, ho1⟩ := isMax_exists ((circF (edge (matO n f)) n).map (meanF (wt (matO n f))))
  obtain ⟨o2, ho2⟩ := isMax_exists ((circF (edge (matO m g)) m).map (meanF (wt (matO m g))))
  have rf := fun τ => rate_is hf (by rw [matO_len]; exact ho1) τ
  have rg := fun τ => rate_is hg (by rw [matO_len]; exact ho2) τ
  have rr := fun τ => rate_is hR (by rw [matO_len]; exact ho1.perm (means_ren nm (by omega)).symm) τ
  have cf := fun τ => circles_ok hf τ
  have cg := fun τ => circles_ok hg τ
  have cr := fun τ => circles_ok hR τ
  rw [matO_len] at cf cg cr
  have hW : Ln (matO (n + m) (wideO n m f g)) := ln_of (by omega) (by omega) fun i j w hi hj hw => by
    unfold wideO at hw
    split at hw <;> split at hw
    · have := mat_lo hf (by assumption) (by assumption) hw; omega
    · cases hw
    · cases hw
    · have := mat_lo hg (i := i - n) (j := j - n) (by omega) (by omega) hw; omega
  have rw_ := fun τ => rate_is hW (by rw [matO_len]; exact (due_max ho1 ho2).perm (means_wide (by omega)).symm) τ
  have cw := fun τ => circles_ok hW τ
  rw [matO_len] at cw
  rw [Φ_law_names_right]
  simp only [EN] at e1
  have eI : ∀ (l : List Nat), (l.map fun (i : Nat) => PyData.int (i : Nat)) = nI l := fun l => rfl
  rw [eI] at e1 r
  have e1' := e1
  simp [exs, ex, ev, evA, evT, evP, evO, evI, look_br, look_own, share_br, slotOf_br, setAll, shareAll, Dv.run, A_law_names_right, N_law_names_right, lenF, lr]
  rw [r]
  simp [exs, ex, ev, evA, evT, evP, evO, evI, look_br, look_own, share_br, slotOf_br, setAll, shareAll]
  rw [show ([] : List D) = nI [] from rfl]
  rw [e1]
  simp [exs, ex, ev, evA, evT, evP, evO, evI, look_br, look_own, share_br, slotOf_br, setAll, shareAll]
  rw [comp_in (e := C_law_names_right_5) (List.range n) (fun (i : Nat) => PyData.int i) (fun i => oT (vecO n (renO ι f i))) rfl (by simp [exs, ex, ev, evA, evT, evP, evO, evI, look_br, look_own, share_br, slotOf_br, setAll, shareAll, r]) (by simp [noOwn]; omega) rfl ?hs]
  case hs =>
    intro i hi
    have hi := List.mem_range.mp hi
    refine ⟨_, rfl, rfl, rfl, ?_⟩
    unfold K_law_names_right_5
    simp [exs, ex, ev, evA, evT, evP, evO, evI, look_br, look_own, share_br, slotOf_br, setAll, shareAll, evD, wipeE]
    rw [comp_in (e := C_law_names_right_4) (List.range n) (fun (i : Nat) => PyData.int i) (fun j => oD (f (ι i) (ι j))) rfl (by simp [exs, ex, ev, evA, evT, evP, evO, evI, look_br, look_own, share_br, slotOf_br, setAll, shareAll, r]) (by simp [noOwn]; omega) rfl ?_]
    · simp [exs, ex, ev, evA, evT, evP, evO, evI, look_br, look_own, share_br, slotOf_br, setAll, shareAll, vec_eq, renO]
    · intro j hj
      have hj := List.mem_range.mp hj
      refine ⟨_, rfl, rfl, rfl, ?_⟩
      have i1 := index_ok (oM i hi)
      have i2 := index_ok (oM j hj)
      rw [hι2] at i1 i2
      have a1 := row_at (f := f) (nm.i i hi)
      have a2 := vec_at (x := f (ι i)) (nm.i j hj)
      unfold K_law_names_right_4
      generalize nI order = O at *
      simp [exs, ex, ev, evA, evT, evP, evO, evI, look_br, look_own, share_br, slotOf_br, setAll, shareAll, evD, wipeE, i1, i2, a1, a2]
  rw [← mat_eq]
  obtain ⟨L, pL, eL⟩ := sort_nT (circF (edge (matO n f)) n)
  rw [eL] at cf
  have hL : ∀ c ∈ L, Circ (edge (matO n f)) n c := fun c hc => (circF_mem (by omega)).mp (pL.mem_iff.mp hc)
  have lL : L.length ≤ 2400 := by rw [pL.length_eq]; exact circF_len (by omega)
  have rn : ∀ c ∈ L, ∀ τ, Φ "_law_renamed" [.d (nT c), .d (.list (nI order))] τ = .ok (.d (nT (renC (fun k => order[k]?.getD 0) c))) τ := fun c hc τ =>
    renamed_ok (circ_pos (hL c hc)).1 (by have := circ_short hf (hL c hc); omega) (by rw [oL]; exact (circ_pos (hL c hc)).2) τ
  have c3 : ∃ s5, ev Φ C_law_names_right_3 [some (Sl.sh Va.tp), sD (oTT (matO n f)), sD (oTT (matO m g)), sI n, sO [], sO (nI order), k', sD (oTT (matO n (renO ι f))), none, none, none, none, none, none, none, none] τ1 = .ok (.fr ((L.map (renC fun k => order[k]?.getD 0)).map nT)) [some (Sl.sh Va.tp), sD (oTT (matO n f)), sD (oTT (matO m g)), sI n, sO [], s5, k', sD (oTT (matO n (renO ι f))), none, none, none, none, none, none, none, none] τ1 := by
    rw [List.map_map]
    by_cases h0 : L = []
    · subst h0
      refine ⟨_, comp_in (e := C_law_names_right_3) ([] : List (List Nat)) nT _ rfl (by simp [exs, ex, ev, evA, evT, evP, evO, evI, look_br, look_own, share_br, slotOf_br, setAll, shareAll, cf]) (by simp [noOwn]) rfl (by simp)⟩
    · refine ⟨sD (.list (nI order)), comp_two (φ := nT) (env1 := [some (Sl.sh Va.tp), sD (oTT (matO n f)), sD (oTT (matO m g)), sI n, sO [], sO (nI order), k', sD (oTT (matO n (renO ι f))), none, none, none, none, none, none, none, none]) (τ1 := τ1) (en1 := fun c => [some (Sl.sh Va.tp), sD (oTT (matO n f)), sD (oTT (matO m g)), sI n, sO [], sO (nI order), k', sD (oTT (matO n (renO ι f))), none, none, sD (nT c), none, none, none, none, none]) (en2 := fun c => [some (Sl.sh Va.tp), sD (oTT (matO n f)), sD (oTT (matO m g)), sI n, sO [], sD (.list (nI order)), k', sD (oTT (matO n (renO ι f))), none, none, sD (nT c), none, none, none, none, none]) h0 (by simp [exs, ex, ev, evA, evT, evP, evO, evI, look_br, look_own, share_br, slotOf_br, setAll, shareAll, cf]) (by simp [noOwn]) (by omega) (fun c hc => rfl) (fun c hc => rfl) (fun c hc => rfl) (fun c hc => rfl) (fun c hc => ⟨.sh (.d (nT (renC (fun k => order[k]?.getD 0) c))), ?_, rfl⟩) (fun c hc => ⟨.sh (.d (nT (renC (fun k => order[k]?.getD 0) c))), ?_, rfl⟩)⟩
      · unfold K_law_names_right_3
        generalize nI order = O at *
        simp [exs, ex, ev, evA, evT, evP, evO, evI, look_br, look_own, share_br, slotOf_br, setAll, shareAll, share_own, rn c hc]
      · unfold K_law_names_right_3
        simp [exs, ex, ev, evA, evT, evP, evO, evI, look_br, look_own, share_br, slotOf_br, setAll, shareAll, rn c hc]
  obtain ⟨s5, c3⟩ := c3
  have pR : ((circF (edge (matO n (renO ι f))) n)).Perm (L.map (renC fun k => order[k]?.getD 0)) := (circles_ren nm (by omega)).trans (pL.map _).symm
  have sR := sort_circles pR
  have bs := sort_nT_ok (l := L.map (renC fun k => order[k]?.getD 0)) (fun c hc => by
    have := (circF_mem (by omega)).mp (pR.mem_iff.mpr hc)
    exact (circ_pos this).1) (by simp; omega)
  have lS := lay_sorted (circF (edge (matO n (renO ι f))) n)
  rw [← sR] at bs
  generalize hM : (L.map (renC fun k => order[k]?.getD 0)).map nT = M at *
  simp [exs, ex, ev, evA, evT, evP, evO, evI, look_br, look_own, share_br, slotOf_br, setAll, shareAll, rr, rf, cmp_ne_self (lay_oF o1) (by decide), cr, cf, c3, bs, cmp_ne_self lS (by decide)]
  rw [comp_in (e := C_law_names_right_1) (List.range n) (fun i => oT (vecO n (f i))) (fun i => PyData.tuple ((vecO n (f i)).map oD ++ List.replicate m .none)) rfl (by simp [exs, ex, ev, evA, evT, evP, evO, evI, look_br, look_own, share_br, slotOf_br, setAll, shareAll, mat_eq]) (by simp [noOwn]; omega) rfl ?hs]
  case hs =>
    intro i hi
    refine ⟨_, rfl, rfl, rfl, ?_⟩
    unfold K_law_names_right_1
    have b := bin_rep (xs := [.none]) (k := m) (by omega) (by decide)
    rw [rep_flat] at b
    have l1 : ((vecO n (f i)).map oD).length + (List.replicate m PyData.none).length ≤ 100000 := by simp [vecO]; omega
    simp [exs, ex, ev, evA, evT, evP, evO, evI, look_br, look_own, share_br, slotOf_br, setAll, shareAll, evD, wipeE, lenG, b, add_tt _ _ l1]
  simp [exs, ex, ev, evA, evT, evP, evO, evI, look_br, look_own, share_br, slotOf_br, setAll, shareAll]
  rw [comp_in (e := C_law_names_right_2) (List.range m) (fun i => oT (vecO m (g i))) (fun i => PyData.tuple (List.replicate n .none ++ (vecO m (g i)).map oD)) rfl (by simp [exs, ex, ev, evA, evT, evP, evO, evI, look_br, look_own, share_br, slotOf_br, setAll, shareAll, mat_eq]) (by simp [noOwn]; omega) rfl ?hs]
  case hs =>
    intro i hi
    refine ⟨_, rfl, rfl, rfl, ?_⟩
    unfold K_law_names_right_2
    have b := bin_rep (xs := [.none]) (k := n) (by omega) (by decide)
    rw [rep_flat] at b
    have l1 : (List.replicate n PyData.none).length + ((vecO m (g i)).map oD).length ≤ 100000 := by simp [vecO]; omega
    simp [exs, ex, ev, evA, evT, evP, evO, evI, look_br, look_own, share_br, slotOf_br, setAll, shareAll, evD, wipeE, b, add_tt _ _ l1]
  have hl1 : ((List.range n).map fun i => PyData.tuple ((vecO n (f i)).map oD ++ List.replicate m .none)).length + ((List.range m).map fun i => PyData.tuple (List.replicate n .none ++ (vecO m (g i)).map oD)).length ≤ 100000 := by simp; omega
  have hwr := wide_rows (n := n) (m := m) (f := f) (g := g)
  have hadd := add_ll _ _ hl1
  rw [hwr] at hadd
  simp [exs, ex, ev, evA, evT, evP, evO, evI, look_br, look_own, share_br, slotOf_br, setAll, shareAll, hadd]
  rw [comp_if (e := C_law_names_right_0) [o1, o2] oF Option.isSome oF rfl (by simp [exs, ex, ev, evA, evT, evP, evO, evI, look_br, look_own, share_br, slotOf_br, setAll, shareAll, rf, rg]) (by simp [noOwn]) rfl ?hs]
  case hs =>
    intro o ho
    refine ⟨_, rfl, rfl, rfl, ?_, fun _ => ?_⟩
    · unfold L_law_names_right_0
      cases o <;> simp [exs, ex, ev, evA, evT, evP, evO, evI, look_br, look_own, share_br, slotOf_br, setAll, shareAll, wipeE, oF, isNone_fr]
    · unfold K_law_names_right_0
      simp [exs, ex, ev, evA, evT, evP, evO, evI, look_br, look_own, share_br, slotOf_br, setAll, shareAll, evD, wipeE]
  have sm1 : ∀ q, o1 = some q → Sm 10 q := fun q hq => by
    subst hq
    obtain ⟨c, hc, rfl⟩ := List.mem_map.mp ho1.1
    exact mean_sm hf (by rw [matO_len]; exact (circF_mem (by omega)).mp hc)
  have sm2 : ∀ q, o2 = some q → Sm 10 q := fun q hq => by
    subst hq
    obtain ⟨c, hc, rfl⟩ := List.mem_map.mp ho2.1
    exact mean_sm hg (by rw [matO_len]; exact (circF_mem (by omega)).mp hc)
  have due : ∀ (o14 : Option Sl), ∃ p14, forLoop (exs Φ B_law_names_right_0) (.name 14) (([o1, o2].filter Option.isSome).map oF) [some (Sl.sh Va.tp), sD (oTT (matO n f)), sD (oTT (matO m g)), sI n, sO [], s5, k', sD (oTT (matO n (renO ι f))), none, none, none, sD (oTT (matO (n + m) (wideO n m f g))), none, sD (.list (([o1, o2].filter Option.isSome).map oF)), o14, sD .none] τ1
      = .nx [some (Sl.sh Va.tp), sD (oTT (matO n f)), sD (oTT (matO m g)), sI n, sO [], s5, k', sD (oTT (matO n (renO ι f))), none, none, none, sD (oTT (matO (n + m) (wideO n m f g))), none, sD (.list (([o1, o2].filter Option.isSome).map oF)), p14, sD (oF (dueF o1 o2))] τ1 := by
    intro o14
    generalize (.list (([o1, o2].filter Option.isSome).map oF) : D) = Z
    cases o1 with
    | none =>
      cases o2 with
      | none => exact ⟨_, rfl⟩
      | some b => exact ⟨sD (fr b), by simp [exs, ex, ev, evA, evT, evP, evO, evI, look_br, look_own, share_br, slotOf_br, setAll, shareAll, forLoop, B_law_names_right_0, setTg, oF, dueF]⟩
    | some a =>
      cases o2 with
      | none => exact ⟨sD (fr a), by simp [exs, ex, ev, evA, evT, evP, evO, evI, look_br, look_own, share_br, slotOf_br, setAll, shareAll, forLoop, B_law_names_right_0, setTg, oF, dueF]⟩
      | some b =>
        have sa := sm1 a rfl
        have sb := sm2 b rfl
        have b1 : bitsOk b.num (a.den : Nat) = true := Fx.bits_k (k := 10) (m := 10) sb.1 (j := (a.den : Nat)) (by simpa using sa.2) (by omega) (by omega)
        have b2 : bitsOk a.num (b.den : Nat) = true := Fx.bits_k (k := 10) (m := 10) sa.1 (j := (b.den : Nat)) (by simpa using sb.2) (by omega) (by omega)
        have e := Rat.lt_iff a b
        refine ⟨sD (fr b), ?_⟩
        by_cases hlt : a < b
        · have h2 := e.mp hlt
          simp [exs, ex, ev, evA, evT, evP, evO, evI, look_br, look_own, share_br, slotOf_br, setAll, shareAll, forLoop, B_law_names_right_0, setTg, oF, dueF, isNone_fr, bin_mul, b1, b2, fr_at0, fr_at1, hlt, h2]
        · have h2 : ¬ (a.num * (b.den : Int) < b.num * (a.den : Int)) := fun h => hlt (e.mpr h)
          simp [exs, ex, ev, evA, evT, evP, evO, evI, look_br, look_own, share_br, slotOf_br, setAll, shareAll, forLoop, B_law_names_right_0, setTg, oF, dueF, isNone_fr, bin_mul, b1, b2, fr_at0, fr_at1, hlt, h2]
  obtain ⟨p14, due⟩ := due none
  have ne1 : ∀ (l : List D), (sO l) = sO l := fun _ => rfl
  generalize hF : (([o1, o2].filter Option.isSome).map oF) = F at *
  simp [exs, ex, ev, evA, evT, evP, evO, evI, look_br, look_own, share_br, slotOf_br, setAll, shareAll, share_own, due, rw_, cmp_eq_self (lay_oF (dueF o1 o2)) (by decide), cw, cf, cg]
  have len1 : ∀ l : List D, (sortD l).length = l.length := fun l => (List.mergeSort_perm _ _).length_eq
  have le := (circles_wide (f := f) (g := g) (n := n) (m := m) (by omega)).length_eq
  have lpl := pL.length_eq
  simp [len1, le, lpl]
end K42

set_option Elab.async false
set_option linter.all false
set_option maxRecDepth 100000
set_option maxHeartbeats 4000000
/-! K42ss: changes: the law's walk. -/
namespace K42
open PySem PySem.Spec PyProof.Rows L2 Dv
open Fx (fr Sm Tk)
def tkS : Nat → Ss → Ss → Ss
  | 0, _, r => r
  | n + 1, .cons s a, r => .cons s (tkS n a r)
  | _ + 1, .nil, r => r
theorem tk_drp : ∀ (n : Nat) (a : Ss), tkS n a (drp n a) = a
  | 0, _ => rfl
  | n + 1, .cons s a => by simp only [tkS, drp, tk_drp n a]
  | n + 1, .nil => rfl
theorem joined_pot (a : Option Int) (k : Int) : joinedO a (some k) = a.map fun x => x + k := by cases a <;> rfl
theorem pot_at (g : Nat → Int) (f : Nat → Nat → Option Int) (i j : Nat) : joinedO (f i j) (some (g i - g j)) = potO g f i j := joined_pot _ _
theorem vec_some (n : Nat) (x : Nat → Int) : (vecO n fun i => some (x i)).map oD = tL n x := by simp [vecO, tL, oD]
theorem tL_of {n : Nat} {ys : List Int} (h : ys.length = n) : ys.map PyData.int = tL n fun i => ys[i]?.getD 0 := by
  refine List.ext_getElem (by simp [tL, h]) fun i h1 h2 => ?_
  simp only [List.length_map] at h1
  simp [tL, List.getElem?_eq_getElem h1]
theorem getD_in {ys : List Int} {P : Int → Prop} (h : ∀ y ∈ ys, P y) (h0 : P 0) (i : Nat) : P (ys[i]?.getD 0) := by
  cases e : ys[i]? with
  | none => simpa using h0
  | some y => simpa using h y (List.mem_of_getElem? e)
/-- ints drawn for a list -/
theorem ints_draw {n m : Nat} {many : Int} (h0 : 0 < many) (h1 : many < 1000000) {τ : Tp} (ht : Tk (n + m) τ) : ∃ (ys : List Int) (τ' : Tp), Chain (fun (_ : Nat) y τ τ' => Φ "_law_take" [.tp, .d (.int many)] τ = .ok (.d (.int y)) τ') (List.range m) ys τ τ' ∧ ys.length = m ∧ (∀ y ∈ ys, 0 ≤ y ∧ y < many) ∧ Tk n τ' := by
  obtain ⟨ys, τ', c, l, q, t⟩ := chain_of (P := fun (_ : Nat) (y : Int) τ τ' => Φ "_law_take" [.tp, .d (.int many)] τ = .ok (.d (.int y)) τ') (Q := fun _ y => 0 ≤ y ∧ y < many) (k := 1) (List.range m) n τ (ht.mono (by simp)) fun a _ k τ ht => by
    obtain ⟨d, τ2, e2, d0, d1, t2⟩ := Fx.draw (Φ := Φ) Φ_law_take (n := k) (many := many) ht h0 (by omega)
    exact ⟨d, τ2, e2, ⟨d0, d1⟩, t2⟩
  exact ⟨ys, τ', c, by simpa using l, zip_snd (Q := fun y => 0 ≤ y ∧ y < many) l q, t⟩
theorem run_ret {Φ : Orc} {k : Nat} {A : Ss} {vs : List Va} {τ τ' : Tp} {v : Va} (h : exs Φ A (vs.map (fun v => some (.sh v)) ++ List.replicate (k - vs.length) none) τ = .ret v τ') : Dv.run Φ k A vs τ = .ok v τ' := by
  unfold Dv.run
  rw [h]
theorem isMax_map {l : List Rat} {o : Option Rat} (h : IsMax l o) {g : Rat → Rat} (hg : ∀ a b, a ≤ b → g a ≤ g b) : IsMax (l.map g) (o.map g) := by
  cases o with
  | none => cases h; rfl
  | some B => exact ⟨List.mem_map.mpr ⟨B, h.1, rfl⟩, fun q hq => by
    obtain ⟨p, hp, rfl⟩ := List.mem_map.mp hq
    exact hg p B (h.2 p hp)⟩
theorem sort_fr_ok {l : List Rat} (hl : l.length ≤ 100000) : bltD .sorted [.list (l.map fr)] = some (.fr (sortD (l.map fr))) := by
  have : sortOk (l.map fr) = true := by
    unfold sortOk
    rw [Bool.and_eq_true, Bool.or_eq_true]
    refine ⟨.inr ?_, by simpa using hl⟩
    rw [List.all_eq_true]
    intro x hx
    obtain ⟨c, hc, rfl⟩ := List.mem_map.mp hx
    rfl
  show (if sortOk (l.map fr) = true then some (Rv.fr (sortD (l.map fr))) else none) = _
  rw [if_pos this]
theorem lay_sort_fr (l : List Rat) : Lay 3 (.list (sortD (l.map fr))) := lay_list fun x hx => by
  obtain ⟨c, _, rfl⟩ := List.mem_map.mp (mem_sort.mp hx)
  exact lay_fr c
theorem max_sm {n : Nat} {f : Nat → Nat → Option Int} (h : Ln (matO n f)) {B : Rat} (hm : IsMax ((circF (edge (matO n f)) n).map (meanF (wt (matO n f)))) (some B)) : Sm 10 B := by
  have h2 := h.l2
  rw [matO_len] at h2
  obtain ⟨c, hc, rfl⟩ := List.mem_map.mp hm.1
  exact mean_sm h (by rw [matO_len]; exact (circF_mem h2).mp hc)
theorem lay_tup3 (a b c : Int) : Lay 2 (.tuple [.int a, .int b, .int c]) := lay_tuple fun x hx => by
  simp at hx
  rcases hx with rfl | rfl | rfl <;> exact lay_int _
theorem reg_tst {n : Nat} {f : Nat → Nat → Option Int} {B : Rat} {m r : Nat} (h : regF n f B = some (m, r)) : tst n f B m r = true ∧ r ≤ 60 ∧ m ≤ 60 ∧ r ≤ m := by
  unfold regF at h
  obtain ⟨m', hm, e⟩ := List.exists_of_findSome?_eq_some h
  rw [Option.map_eq_some_iff] at e
  obtain ⟨r', hr, e⟩ := e
  cases e
  have h1 := List.find?_some hr
  have h2 := List.mem_of_find?_eq_some hr
  rw [List.mem_range'_1] at h2 hm
  exact ⟨h1, by omega, by omega, by omega⟩
theorem time_move {B : Rat} {r : Nat} (h : (B * ((r : Int) : Rat)).den = 1) (b : Int) : ((B + (b : Rat)) * ((r : Int) : Rat)).num = (B * ((r : Int) : Rat)).num + r * b := by
  have e := den_one h
  have : (B + (b : Rat)) * ((r : Int) : Rat) = (((B * ((r : Int) : Rat)).num + r * b : Int) : Rat) := by
    rw [Rat.add_mul, Rat.intCast_add, ← e, Rat.intCast_mul, Rat.mul_comm (b : Rat)]
  rw [this, Rat.num_intCast]
theorem time_fac {B : Rat} {r : Nat} (h : (B * ((r : Int) : Rat)).den = 1) (k : Int) : (((k : Rat) * B) * ((r : Int) : Rat)).num = k * (B * ((r : Int) : Rat)).num := by
  have e := den_one h
  have : ((k : Rat) * B) * ((r : Int) : Rat) = ((k * (B * ((r : Int) : Rat)).num : Int) : Rat) := by
    rw [Rat.mul_assoc, Rat.intCast_mul, ← e]
  rw [this, Rat.num_intCast]
theorem changes_ok {n : Nat} {f : Nat → Nat → Option Int} (n1 : 1 ≤ n) (hn4 : n ≤ 4) (hlow : ∀ i j, lowO (f i j)) {k0 : Nat} {τ : Tp} (ht : Tk (k0 + 30) τ) : ∃ τ', Φ "_law_changes_right" [.tp, .d (oTT (matO n f))] τ = .ok (.d (.bool true)) τ' ∧ Tk k0 τ' := by
  have hf : Ln (matO n f) := ln_of n1 (by omega) fun i j w _ _ hw => by have := hlow i j w hw; omega
  have lenF : ((matO n f).map oT).length = n := by simp [matO]
  have r := range_it (n := n) (by omega)
  -- all the draws ahead
  obtain ⟨ys, τ1, c1, l1, q1, t1⟩ := ints_draw (n := k0 + 20) (m := n) (many := 9) (by decide) (by decide) (ht.mono (by omega))
  obtain ⟨g, hg⟩ : ∃ g : Nat → Int, g = fun i => (ys[i]?.getD 4) - 4 := ⟨_, rfl⟩
  have hg4 : ∀ i, -4 ≤ g i ∧ g i ≤ 4 := fun i => by
    rw [hg]
    show -4 ≤ ys[i]?.getD 4 - 4 ∧ ys[i]?.getD 4 - 4 ≤ 4
    cases e : ys[i]? with
    | none => simp
    | some y =>
      have := q1 y (List.mem_of_getElem? e)
      simp only [Option.getD_some]
      omega
  have eg : ys.map (fun y => PyData.int (y - 4)) = tL n g := by
    refine List.ext_getElem (by simp [tL, l1]) fun i h1 h2 => ?_
    simp only [List.length_map] at h1
    simp [tL, hg, List.getElem?_eq_getElem h1]
  have hO : Ln (matO n (potO g f)) := ln_of n1 (by omega) fun i j w _ _ hw => by
    unfold potO at hw
    cases e : f i j with
    | none => rw [e] at hw; simp at hw
    | some v =>
      rw [e] at hw
      simp at hw
      have := hlow i j v e
      have := hg4 i
      have := hg4 j
      omega
  obtain ⟨o, ho⟩ := isMax_exists ((circF (edge (matO n f)) n).map (meanF (wt (matO n f))))
  have cmem : ∀ c, c ∈ circF (edge (matO n f)) n ↔ Circ (edge (matO n f)) n c := fun c => circF_mem (by omega)
  have rf := fun τ => rate_is hf (by rw [matO_len]; exact ho) τ
  have rO := fun τ => rate_is hO (o := o) (by
    rw [matO_len, pot_edge]
    rw [List.map_congr_left (g := meanF (wt (matO n f))) fun c hc => pot_mean ((cmem c).mp hc)]
    exact ho) τ
  have cf := fun τ => circles_ok hf τ
  have cO := fun τ => circles_ok hO τ
  rw [matO_len] at cf cO
  rw [pot_edge] at cO
  obtain ⟨L, pL, eL⟩ := sort_nT (circF (edge (matO n f)) n)
  rw [eL] at cf cO
  have hL : ∀ c ∈ L, Circ (edge (matO n f)) n c := fun c hc => (cmem c).mp (pL.mem_iff.mp hc)
  have lL : L.length ≤ 2400 := by rw [pL.length_eq]; exact circF_len (by omega)
  have mf : ∀ c ∈ L, ∀ τ, Φ "mean_of" [.d (oTT (matO n f)), .d (nT c)] τ = .ok (.d (fr (meanF (wt (matO n f)) c))) τ := fun c hc τ => mean_circ hf (by rw [matO_len]; exact hL c hc) τ
  have mO : ∀ c ∈ L, ∀ τ, Φ "mean_of" [.d (oTT (matO n (potO g f))), .d (nT c)] τ = .ok (.d (fr (meanF (wt (matO n f)) c))) τ := fun c hc τ => by
    rw [← pot_mean (g := g) (hL c hc)]
    exact mean_circ hO (by rw [matO_len, pot_edge]; exact hL c hc) τ
  have lT : Lay 3 (.list (L.map nT)) := by rw [← eL]; exact lay_sorted _
  rw [Φ_law_changes_right]
  suffices h : ∃ τ', exs Φ A_law_changes_right [some (.sh .tp), sD (oTT (matO n f)), none, none, none, none, none, none, none, none, none, none, none, none, none, none, none, none, none, none, none, none, none, none, none, none, none, none, none] τ = .ret (.d (.bool true)) τ' ∧ Tk k0 τ' by
    obtain ⟨τ', h1, h2⟩ := h
    exact ⟨τ', run_ret h1, h2⟩
  unfold A_law_changes_right
  simp -implicitDefEqProofs [exs, ex, ev, evA, evT, evP, evO, evI, look_br, look_own, share_br, slotOf_br, setAll, shareAll, lenF]
  rw [comp_ch (e := C_law_changes_right_17) c1 (fun (i : Nat) => PyData.int i) (fun y => PyData.int (y - 4)) rfl (by simp -implicitDefEqProofs [exs, ex, ev, evA, evT, evP, evO, evI, look_br, look_own, share_br, slotOf_br, setAll, shareAll, r]) (by simp [noOwn]; omega) rfl ?hs]
  case hs =>
    intro a _ y τ τ' hP
    refine ⟨_, rfl, rfl, rfl, ?_⟩
    unfold K_law_changes_right_17
    simp -implicitDefEqProofs [exs, ex, ev, evA, evT, evP, evO, evI, look_br, look_own, share_br, slotOf_br, setAll, shareAll, evD, wipeE, hP]
  rw [eg]
  simp -implicitDefEqProofs [exs, ex, ev, evA, evT, evP, evO, evI, look_br, look_own, share_br, slotOf_br, setAll, shareAll, rf, cf]
  rw [comp_in (e := C_law_changes_right_16) (List.range n) (fun (i : Nat) => PyData.int i) (fun i => oT (vecO n (potO g f i))) rfl (by simp -implicitDefEqProofs [exs, ex, ev, evA, evT, evP, evO, evI, look_br, look_own, share_br, slotOf_br, setAll, shareAll, r]) (by simp [noOwn]; omega) rfl ?hs]
  case hs =>
    intro i hi
    have hi := List.mem_range.mp hi
    refine ⟨_, rfl, rfl, rfl, ?_⟩
    unfold K_law_changes_right_16
    simp -implicitDefEqProofs [exs, ex, ev, evA, evT, evP, evO, evI, look_br, look_own, share_br, slotOf_br, setAll, shareAll, evD, wipeE]
    rw [comp_in (e := C_law_changes_right_15) (List.range n) (fun (i : Nat) => PyData.int i) (fun j => oD (potO g f i j)) rfl (by simp -implicitDefEqProofs [exs, ex, ev, evA, evT, evP, evO, evI, look_br, look_own, share_br, slotOf_br, setAll, shareAll, r]) (by simp [noOwn]; omega) rfl ?_]
    · simp -implicitDefEqProofs [exs, ex, ev, evA, evT, evP, evO, evI, look_br, look_own, share_br, slotOf_br, setAll, shareAll, vec_eq]
    · intro j hj
      have hj := List.mem_range.mp hj
      refine ⟨_, rfl, rfl, rfl, ?_⟩
      have a1 := row_at (f := f) hi
      have a2 := vec_at (x := f i) hj
      have a3 := tL_at (t := g) hi
      have a4 := tL_at (t := g) hj
      have p := fun τ => plus_ok (f i j) (g i - g j) τ
      rw [pot_at] at p
      unfold K_law_changes_right_15
      generalize tL n g = G at *
      simp -implicitDefEqProofs [exs, ex, ev, evA, evT, evP, evO, evI, look_br, look_own, share_br, slotOf_br, setAll, shareAll, evD, wipeE, a1, a2, a3, a4, p]
  rw [← mat_eq]
  simp -implicitDefEqProofs [exs, ex, ev, evA, evT, evP, evO, evI, look_br, look_own, share_br, slotOf_br, setAll, shareAll, rO, rf, cmp_ne_self (lay_oF o) (by decide), cO, cmp_ne_self lT (by decide)]
  rw [comp_in (e := C_law_changes_right_14) L nT (fun c => PyData.bool false) rfl (by simp [exs, ex, ev, evA, evT, evP, evO, evI, look_br, look_own, share_br, slotOf_br, setAll, shareAll]) (by simp [noOwn]; omega) rfl ?hs]
  case hs =>
    intro c hc
    refine ⟨_, rfl, rfl, rfl, ?_⟩
    unfold K_law_changes_right_14
    simp -implicitDefEqProofs [exs, ex, ev, evA, evT, evP, evO, evI, look_br, look_own, share_br, slotOf_br, setAll, shareAll, evD, wipeE, mf c hc, mO c hc, cmp_ne_fr]
  have anyff : ∀ {α : Type} (l : List α), (l.any fun _ => false) = false := fun l => by rw [List.any_eq_false]; intros; simp
  simp -implicitDefEqProofs [exs, ex, ev, evA, evT, evP, evO, evI, look_br, look_own, share_br, slotOf_br, setAll, shareAll, rb_any _ (boolsD_map2 _ _), anyff]
  obtain ⟨d, τ2, e2, d0, d1, t2⟩ := Fx.draw (Φ := Φ) Φ_law_take (n := k0 + 19) (many := 9) t1 (by decide) (by decide)
  obtain ⟨m, rfl⟩ : ∃ m : Nat, d = m := ⟨d.toNat, by omega⟩
  have pw1 := fun τ => power_ok hf (m := m) (by omega) τ
  have pw2 := fun τ => power_ok hO (m := m) (by omega) τ
  rw [pot_pow] at pw2
  simp -implicitDefEqProofs [exs, ex, ev, evA, evT, evP, evO, evI, look_br, look_own, share_br, slotOf_br, setAll, shareAll, e2, pw1, pw2]
  rw [comp_in (e := C_law_changes_right_13) (List.range n) (fun (i : Nat) => PyData.int i) (fun i => oT (vecO n (potO g (powO n f m) i))) rfl (by simp -implicitDefEqProofs [exs, ex, ev, evA, evT, evP, evO, evI, look_br, look_own, share_br, slotOf_br, setAll, shareAll, r]) (by simp [noOwn]; omega) rfl ?hs]
  case hs =>
    intro i hi
    have hi := List.mem_range.mp hi
    refine ⟨_, rfl, rfl, rfl, ?_⟩
    unfold K_law_changes_right_13
    simp -implicitDefEqProofs [exs, ex, ev, evA, evT, evP, evO, evI, look_br, look_own, share_br, slotOf_br, setAll, shareAll, evD, wipeE]
    rw [comp_in (e := C_law_changes_right_12) (List.range n) (fun (i : Nat) => PyData.int i) (fun j => oD (potO g (powO n f m) i j)) rfl (by simp -implicitDefEqProofs [exs, ex, ev, evA, evT, evP, evO, evI, look_br, look_own, share_br, slotOf_br, setAll, shareAll, r]) (by simp [noOwn]; omega) rfl ?_]
    · simp -implicitDefEqProofs [exs, ex, ev, evA, evT, evP, evO, evI, look_br, look_own, share_br, slotOf_br, setAll, shareAll, vec_eq]
    · intro j hj
      have hj := List.mem_range.mp hj
      refine ⟨_, rfl, rfl, rfl, ?_⟩
      have a1 := row_at (f := powO n f m) hi
      have a2 := vec_at (x := powO n f m i) hj
      have a3 := tL_at (t := g) hi
      have a4 := tL_at (t := g) hj
      have p := fun τ => plus_ok (powO n f m i j) (g i - g j) τ
      rw [pot_at] at p
      unfold K_law_changes_right_12
      generalize tL n g = G at *
      simp -implicitDefEqProofs [exs, ex, ev, evA, evT, evP, evO, evI, look_br, look_own, share_br, slotOf_br, setAll, shareAll, evD, wipeE, a1, a2, a3, a4, p]
  rw [← mat_eq]
  obtain ⟨xs, τ3, c3, l3, q3, t3⟩ := ints_draw (n := k0 + 10) (m := n) (many := 9) (by decide) (by decide) (t2.mono (by omega))
  have ex := tL_of l3
  obtain ⟨x, hx⟩ : ∃ x : Nat → Int, x = fun i => xs[i]?.getD 0 := ⟨_, rfl⟩
  rw [← hx] at ex
  simp -implicitDefEqProofs [exs, ex, ev, evA, evT, evP, evO, evI, look_br, look_own, share_br, slotOf_br, setAll, shareAll, cmp_ne_self (lay_oTT _) (by decide)]
  rw [comp_ch (e := C_law_changes_right_11) c3 (fun (i : Nat) => PyData.int i) PyData.int rfl (by simp -implicitDefEqProofs [exs, ex, ev, evA, evT, evP, evO, evI, look_br, look_own, share_br, slotOf_br, setAll, shareAll, r]) (by simp [noOwn]; omega) rfl ?hs]
  case hs =>
    intro a _ y τ τ' hP
    refine ⟨_, rfl, rfl, rfl, ?_⟩
    unfold K_law_changes_right_11
    simp -implicitDefEqProofs [exs, ex, ev, evA, evT, evP, evO, evI, look_br, look_own, share_br, slotOf_br, setAll, shareAll, evD, wipeE, hP]
  rw [ex]
  have run1 : ∀ τ, Φ "run_line" [.d (oTT (matO n f)), .d (.tuple (tL n x)), .d (.int m)] τ = .ok (.d (.tuple ((List.range (m + 1)).map fun i => oT (vecO n (runO n f (fun i => some (x i)) i))))) τ := fun τ => by
    rw [← vec_some]
    exact run_any hf _ (by omega) τ
  have run2 : ∀ τ, Φ "run_line" [.d (oTT (matO n (potO g f))), .d (.tuple (tL n fun i => x i + g i)), .d (.int m)] τ = .ok (.d (.tuple ((List.range (m + 1)).map fun i => oT (vecO n fun j => (runO n f (fun i => some (x i)) i j).map (· + g j))))) τ := fun τ => by
    rw [← vec_some]
    have := run_any hO (fun i => some (x i + g i)) (m := m) (by omega) τ
    rw [this]
    have e : ∀ i j, runO n (potO g f) (fun i => some (x i + g i)) i j = (runO n f (fun i => some (x i)) i j).map (· + g j) := fun i j => pot_run n g f (fun i => some (x i)) i j
    have e2 : ∀ i, runO n (potO g f) (fun i => some (x i + g i)) i = fun j => (runO n f (fun i => some (x i)) i j).map (· + g j) := fun i => funext (e i)
    simp only [e2]
  generalize hrun : runO n f (fun i => some (x i)) = ru at *
  simp -implicitDefEqProofs [exs, ex, ev, evA, evT, evP, evO, evI, look_br, look_own, share_br, slotOf_br, setAll, shareAll, run1]
  rw [comp_in (e := C_law_changes_right_10) (List.range n) (fun (i : Nat) => PyData.int i) (fun i => PyData.int (x i + g i)) rfl (by simp -implicitDefEqProofs [exs, ex, ev, evA, evT, evP, evO, evI, look_br, look_own, share_br, slotOf_br, setAll, shareAll, r]) (by simp [noOwn]; omega) rfl ?hs]
  case hs =>
    intro i hi
    have hi := List.mem_range.mp hi
    refine ⟨_, rfl, rfl, rfl, ?_⟩
    have a3 := tL_at (t := g) hi
    have a4 := tL_at (t := x) hi
    unfold K_law_changes_right_10
    generalize tL n g = G at *
    generalize tL n x = X at *
    simp -implicitDefEqProofs [exs, ex, ev, evA, evT, evP, evO, evI, look_br, look_own, share_br, slotOf_br, setAll, shareAll, evD, wipeE, a3, a4]
  rw [show ((List.range n).map fun i => PyData.int (x i + g i)) = tL n fun i => x i + g i from rfl]
  have r1 : itemsD .range1 [.int ((m : Int) + 1)] = some ((List.range (m + 1)).map fun (k : Nat) => PyData.int k) := by
    have := range_it (n := m + 1) (by omega)
    rwa [show ((m + 1 : Nat) : Int) = (m : Int) + 1 by omega] at this
  simp -implicitDefEqProofs [exs, ex, ev, evA, evT, evP, evO, evI, look_br, look_own, share_br, slotOf_br, setAll, shareAll, run2]
  rw [comp_in (e := C_law_changes_right_9) (List.range (m + 1)) (fun (i : Nat) => PyData.int i) (fun i => PyData.bool false) rfl (by simp -implicitDefEqProofs [exs, ex, ev, evA, evT, evP, evO, evI, look_br, look_own, share_br, slotOf_br, setAll, shareAll, r1]) (by simp [noOwn]; omega) rfl ?hs]
  case hs =>
    intro i hi
    have hi := List.mem_range.mp hi
    refine ⟨_, rfl, rfl, rfl, ?_⟩
    have a1 : atI ((List.range (m + 1)).map fun i => oT (vecO n (ru i))) (i : Int) = some (oT (vecO n (ru i))) := by
      rw [at_nat (by simpa using hi)]; simp
    have a2 : atI ((List.range (m + 1)).map fun i => oT (vecO n fun j => (ru i j).map (· + g j))) (i : Int) = some (oT (vecO n fun j => (ru i j).map (· + g j))) := by
      rw [at_nat (by simpa using hi)]; simp
    unfold K_law_changes_right_9
    simp -implicitDefEqProofs [exs, ex, ev, evA, evT, evP, evO, evI, look_br, look_own, share_br, slotOf_br, setAll, shareAll, evD, wipeE, a2]
    rw [comp_in (e := C_law_changes_right_8) (List.range n) (fun (i : Nat) => PyData.int i) (fun j => oD ((ru i j).map (· + g j))) rfl (by simp -implicitDefEqProofs [exs, ex, ev, evA, evT, evP, evO, evI, look_br, look_own, share_br, slotOf_br, setAll, shareAll, r]) (by simp [noOwn]; omega) rfl ?_]
    · rw [← vec_eq]
      simp -implicitDefEqProofs [exs, ex, ev, evA, evT, evP, evO, evI, look_br, look_own, share_br, slotOf_br, setAll, shareAll, cmp_ne_self (lay_oT _) (by decide)]
    · intro j hj
      have hj := List.mem_range.mp hj
      refine ⟨_, rfl, rfl, rfl, ?_⟩
      have a4 := vec_at (x := ru i) hj
      have a3 := tL_at (t := g) hj
      have p := fun τ => plus_ok (ru i j) (g j) τ
      rw [joined_pot] at p
      unfold K_law_changes_right_8
      generalize tL n g = G at *
      simp -implicitDefEqProofs [exs, ex, ev, evA, evT, evP, evO, evI, look_br, look_own, share_br, slotOf_br, setAll, shareAll, evD, wipeE, a1, a3, a4, p]
  simp -implicitDefEqProofs [exs, ex, ev, evA, evT, evP, evO, evI, look_br, look_own, share_br, slotOf_br, setAll, shareAll, rb_any _ (boolsD_map2 _ _), anyff]
  obtain ⟨v1, τ4, e4, v10, v11, t4⟩ := Fx.draw (Φ := Φ) Φ_law_take (n := k0 + 9) (many := 21) t3 (by decide) (by decide)
  obtain ⟨v2, τ5, e5, v20, v21, t5⟩ := Fx.draw (Φ := Φ) Φ_law_take (n := k0 + 8) (many := 4) t4 (by decide) (by decide)
  refine ⟨τ5, ?_, t5.mono (by omega)⟩
  have mv := fun τ => moved_ok (show n ≤ 1000 by omega) f (v1 - 10) τ
  simp -implicitDefEqProofs [exs, ex, ev, evA, evT, evP, evO, evI, look_br, look_own, share_br, slotOf_br, setAll, shareAll, e4, e5, mv]
  generalize hb : v1 - 10 = b at *
  generalize hk : 1 + v2 = k at *
  have bt : ∀ u, -1000000 ≤ u → u ≤ 1000000 → bitsOk k u = true := fun u u1 u2 => Fx.bits_of (by omega) (by omega)
  rw [comp_in (e := C_law_changes_right_7) (List.range n) (fun i => oT (vecO n (f i))) (fun i => oT (vecO n (facO k f i))) rfl (by simp -implicitDefEqProofs [exs, ex, ev, evA, evT, evP, evO, evI, look_br, look_own, share_br, slotOf_br, setAll, shareAll, mat_eq]) (by simp [noOwn]; omega) rfl ?hs]
  case hs =>
    intro i hi
    refine ⟨_, rfl, rfl, rfl, ?_⟩
    unfold K_law_changes_right_7
    simp -implicitDefEqProofs [exs, ex, ev, evA, evT, evP, evO, evI, look_br, look_own, share_br, slotOf_br, setAll, shareAll, evD, wipeE]
    rw [comp_in (e := C_law_changes_right_6) (List.range n) (fun j => oD (f i j)) (fun j => oD (facO k f i j)) rfl (by simp -implicitDefEqProofs [exs, ex, ev, evA, evT, evP, evO, evI, look_br, look_own, share_br, slotOf_br, setAll, shareAll, vec_eq]) (by simp [noOwn]; omega) rfl ?_]
    · simp -implicitDefEqProofs [exs, ex, ev, evA, evT, evP, evO, evI, look_br, look_own, share_br, slotOf_br, setAll, shareAll, vec_eq]
    · intro j hj
      refine ⟨_, rfl, rfl, rfl, ?_⟩
      unfold K_law_changes_right_6
      cases hz : f i j with
      | none => simp -implicitDefEqProofs [exs, ex, ev, evA, evT, evP, evO, evI, look_br, look_own, share_br, slotOf_br, setAll, shareAll, evD, wipeE, oD, facO, hz]
      | some z =>
        have := hlow i j z hz
        simp -implicitDefEqProofs [exs, ex, ev, evA, evT, evP, evO, evI, look_br, look_own, share_br, slotOf_br, setAll, shareAll, evD, wipeE, oD, facO, hz, bin_mul, bt z (by omega) (by omega)]
  rw [← mat_eq]
  simp -implicitDefEqProofs [exs, ex, ev, evA, evT, evP, evO, evI, look_br, look_own, share_br, slotOf_br, setAll, shareAll]
  rw [comp_in (e := C_law_changes_right_5) (List.range n) (fun (i : Nat) => PyData.int i) (fun i => oT (vecO n (acrO f i))) rfl (by simp -implicitDefEqProofs [exs, ex, ev, evA, evT, evP, evO, evI, look_br, look_own, share_br, slotOf_br, setAll, shareAll, r]) (by simp [noOwn]; omega) rfl ?hs]
  case hs =>
    intro i hi
    have hi := List.mem_range.mp hi
    refine ⟨_, rfl, rfl, rfl, ?_⟩
    unfold K_law_changes_right_5
    simp -implicitDefEqProofs [exs, ex, ev, evA, evT, evP, evO, evI, look_br, look_own, share_br, slotOf_br, setAll, shareAll, evD, wipeE]
    rw [comp_in (e := C_law_changes_right_4) (List.range n) (fun (i : Nat) => PyData.int i) (fun j => oD (acrO f i j)) rfl (by simp -implicitDefEqProofs [exs, ex, ev, evA, evT, evP, evO, evI, look_br, look_own, share_br, slotOf_br, setAll, shareAll, r]) (by simp [noOwn]; omega) rfl ?_]
    · simp -implicitDefEqProofs [exs, ex, ev, evA, evT, evP, evO, evI, look_br, look_own, share_br, slotOf_br, setAll, shareAll, vec_eq]
    · intro j hj
      have hj := List.mem_range.mp hj
      refine ⟨_, rfl, rfl, rfl, ?_⟩
      have a1 := row_at (f := f) hj
      have a2 := vec_at (x := f j) hi
      unfold K_law_changes_right_4
      simp -implicitDefEqProofs [exs, ex, ev, evA, evT, evP, evO, evI, look_br, look_own, share_br, slotOf_br, setAll, shareAll, evD, wipeE, a1, a2, acrO]
  rw [← mat_eq]
  have hM : Ln (matO n (moveO f b)) := ln_of n1 (by omega) fun i j w _ _ hw => by
    unfold moveO at hw
    cases e : f i j with
    | none => rw [e] at hw; simp [joinedO] at hw
    | some v =>
      rw [e] at hw
      simp [joinedO] at hw
      have := hlow i j v e
      omega
  have hG : Ln (matO n (facO k f)) := ln_of n1 (by omega) fun i j w _ _ hw => by
    unfold facO at hw
    cases e : f i j with
    | none => rw [e] at hw; simp at hw
    | some v =>
      rw [e] at hw
      simp at hw
      have := hlow i j v e
      rcases (show k = 1 ∨ k = 2 ∨ k = 3 ∨ k = 4 by omega) with rfl | rfl | rfl | rfl <;> omega
  have hA : Ln (matO n (acrO f)) := ln_of n1 (by omega) fun i j w _ _ hw => by
    have := hlow j i w hw
    omega
  have hoM : IsMax ((circF (edge (matO n (moveO f b))) n).map (meanF (wt (matO n (moveO f b))))) (o.map (· + (b : Rat))) := by
    rw [move_edge]
    rw [List.map_congr_left (g := fun c => meanF (wt (matO n f)) c + (b : Rat)) fun c hc => move_mean ((cmem c).mp hc)]
    have := isMax_map ho (g := (· + (b : Rat))) fun p q h => Rat.add_le_add_right.mpr h
    rwa [List.map_map] at this
  have hoG : IsMax ((circF (edge (matO n (facO k f))) n).map (meanF (wt (matO n (facO k f))))) (o.map ((k : Rat) * ·)) := by
    rw [fac_edge]
    rw [List.map_congr_left (g := fun c => (k : Rat) * meanF (wt (matO n f)) c) fun c hc => fac_mean ((cmem c).mp hc)]
    have := isMax_map ho (g := ((k : Rat) * ·)) fun p q h => Rat.mul_le_mul_of_nonneg_left h (by exact_mod_cast (show (0 : Int) ≤ k by omega))
    rwa [List.map_map] at this
  have hoA : IsMax ((circF (edge (matO n (acrO f))) n).map (meanF (wt (matO n (acrO f))))) o := ho.perm (means_rho (by omega) f).symm
  have rM := fun τ => rate_is hM (by rw [matO_len]; exact hoM) τ
  have rG := fun τ => rate_is hG (by rw [matO_len]; exact hoG) τ
  have rA := fun τ => rate_is hA (by rw [matO_len]; exact hoA) τ
  cases o with
  | none =>
    have hL0 : L = [] := by
      have e : circF (edge (matO n f)) n = [] := by
        have : (circF (edge (matO n f)) n).map (meanF (wt (matO n f))) = [] := ho
        simpa using this
      rw [e] at pL
      exact pL.eq_nil
    subst hL0
    simp only [Option.map_none] at rM rG
    simp -implicitDefEqProofs [exs, ex, ev, evA, evT, evP, evO, evI, look_br, look_own, share_br, slotOf_br, setAll, shareAll, oF, rM, rG, rA, cmp_eq_self (x := .list []) ⟨rfl, by simp [PyData.depth, PyData.depthAll]⟩ (show 5 ≤ 64 by decide)]
  | some B =>
    simp only [Option.map_some] at rM rG hoM hoG
    have sB := max_sm hf ho
    have sM := max_sm hM hoM
    have sG := max_sm hG hoG
    have sb : Sm 10 (b : Rat) := Sm.int (by omega) (by decide)
    have sk : Sm 10 (k : Rat) := Sm.int (by omega) (by decide)
    have ls := fun τ => lsum_ok (k := 10) (l := [B, (b : Rat)]) (by intro q hq; simp at hq; rcases hq with rfl | rfl <;> assumption) (by simp) τ
    have lt := fun τ => ltimes_ok sB sk (by decide) τ
    have e1 : Fx.sumR [B, (b : Rat)] = B + (b : Rat) := by simp [Fx.sumR, Rat.zero_add]
    rw [e1] at ls
    rw [Rat.mul_comm] at lt
    simp only [List.map_cons, List.map_nil] at ls
    rw [← Fx.fr_int] at ls lt
    simp only [oF] at *
    simp -implicitDefEqProofs [exs, ex, ev, evA, evT, evP, evO, evI, look_br, look_own, share_br, slotOf_br, setAll, shareAll, isNone_fr, rM, rG, rA, ls, lt, cmp_ne_fr]
    have pwM := fun τ => power_ok hM (m := m) (by omega) τ
    have pM := fun τ => moved_ok (show n ≤ 1000 by omega) (powO n f m) (b * m) τ
    have eP : matO n (powO n (moveO f b) m) = matO n (moveO (powO n f m) (b * m)) := matO_ext fun i j _ _ => by rw [move_pow, Int.mul_comm]
    rw [eP] at pwM
    have bm : bitsOk b m = true := Fx.bits_of (by omega) (by omega)
    have cA := fun τ => circles_ok hA τ
    rw [matO_len] at cA
    obtain ⟨L2, pL2, eL2⟩ := sort_nT (circF (edge (matO n (acrO f))) n)
    rw [eL2] at cA
    have hL2 : ∀ c ∈ L2, Circ (edge (matO n (acrO f))) n c := fun c hc => (circF_mem (by omega)).mp (pL2.mem_iff.mp hc)
    have lL2 : L2.length ≤ 2400 := by rw [pL2.length_eq]; exact circF_len (by omega)
    have mA : ∀ c ∈ L2, ∀ τ, Φ "mean_of" [.d (oTT (matO n (acrO f))), .d (nT c)] τ = .ok (.d (fr (meanF (wt (matO n (acrO f))) c))) τ := fun c hc τ => mean_circ hA (by rw [matO_len]; exact hL2 c hc) τ
    simp -implicitDefEqProofs [exs, ex, ev, evA, evT, evP, evO, evI, look_br, look_own, share_br, slotOf_br, setAll, shareAll, pwM, pM, bin_mul, bm, cmp_ne_self (lay_oTT _) (by decide)]
    rw [comp_in (e := C_law_changes_right_2) L2 nT (fun c => fr (meanF (wt (matO n (acrO f))) c)) rfl (by simp -implicitDefEqProofs [exs, ex, ev, evA, evT, evP, evO, evI, look_br, look_own, share_br, slotOf_br, setAll, shareAll, cA]) (by simp [noOwn]; omega) rfl ?hs]
    case hs =>
      intro c hc
      refine ⟨_, rfl, rfl, rfl, ?_⟩
      unfold K_law_changes_right_2
      simp -implicitDefEqProofs [exs, ex, ev, evA, evT, evP, evO, evI, look_br, look_own, share_br, slotOf_br, setAll, shareAll, evD, wipeE, mA c hc]
    have s2 := sort_fr_ok (l := L2.map (meanF (wt (matO n (acrO f))))) (by simp; omega)
    have s1 := sort_fr_ok (l := L.map (meanF (wt (matO n f)))) (by simp; omega)
    have s3 := sort_frs ((pL2.map (meanF (wt (matO n (acrO f))))).trans ((means_rho (by omega) f).trans (pL.map (meanF (wt (matO n f)))).symm))
    rw [s3] at s2
    have lS := lay_sort_fr (L.map (meanF (wt (matO n f))))
    generalize sortD ((L.map (meanF (wt (matO n f)))).map fr) = SS at *
    rw [List.map_map] at s1 s2
    rw [show (L2.map fun c => fr (meanF (wt (matO n (acrO f))) c)) = L2.map (fr ∘ meanF (wt (matO n (acrO f)))) from rfl]
    generalize L2.map (fr ∘ meanF (wt (matO n (acrO f)))) = M2 at *
    simp -implicitDefEqProofs [exs, ex, ev, evA, evT, evP, evO, evI, look_br, look_own, share_br, slotOf_br, setAll, shareAll, s2]
    rw [comp_in (e := C_law_changes_right_3) L nT (fun c => fr (meanF (wt (matO n f)) c)) rfl (by simp -implicitDefEqProofs [exs, ex, ev, evA, evT, evP, evO, evI, look_br, look_own, share_br, slotOf_br, setAll, shareAll]) (by simp [noOwn]; omega) rfl ?hs]
    case hs =>
      intro c hc
      refine ⟨_, rfl, rfl, rfl, ?_⟩
      unfold K_law_changes_right_3
      simp -implicitDefEqProofs [exs, ex, ev, evA, evT, evP, evO, evI, look_br, look_own, share_br, slotOf_br, setAll, shareAll, evD, wipeE, mf c hc]
    rw [show (L.map fun c => fr (meanF (wt (matO n f)) c)) = L.map (fr ∘ meanF (wt (matO n f))) from rfl]
    generalize L.map (fr ∘ meanF (wt (matO n f))) = M1 at *
    obtain ⟨cc, hcc, hcm, hcp⟩ := paper_ok hf ho τ5
    have qS : ∀ i, i < n → Sm 20 (Rat.divInt (itT n f B.den B.num (n + 1) z0 i) B.den) := fun i hi => paper_sm hf sB hi
    have tkP := fun τ => takes_pot hf g (fun i _ => by have := hg4 i; omega) hO sB ho hcc hcm τ
    have tkM := fun τ => takes_move hf b hM sB sM ho hcc hcm τ
    have tkG := fun τ => takes_fac hf (k := k) (by omega) (by omega) hG sB sG ho hcc hcm τ
    generalize hq : (fun i => Rat.divInt (itT n f B.den B.num (n + 1) z0 i) B.den) = q at *
    have hq2 : ∀ i, Rat.divInt (itT n f B.den B.num (n + 1) z0 i) B.den = q i := fun i => by rw [← hq]
    simp only [hq2] at tkP tkM tkG qS
    simp -implicitDefEqProofs [exs, ex, ev, evA, evT, evP, evO, evI, look_br, look_own, share_br, slotOf_br, setAll, shareAll, s1, cmp_ne_self lS (by decide), hcp, tg_n, tg_t, tgs_n, tgs_c]
    rw [comp_in (e := C_law_changes_right_1) (List.range n) (fun (i : Nat) => PyData.int i) (fun i => fr (q i + (g i : Rat))) rfl (by simp -implicitDefEqProofs [exs, ex, ev, evA, evT, evP, evO, evI, look_br, look_own, share_br, slotOf_br, setAll, shareAll, r]) (by simp [noOwn]; omega) rfl ?hs]
    case hs =>
      intro i hi
      have hi := List.mem_range.mp hi
      refine ⟨_, rfl, rfl, rfl, ?_⟩
      have a1 := qT_at (q := q) hi
      have a3 := tL_at (t := g) hi
      have ls := fun τ => lsum_ok (k := 20) (l := [q i, (g i : Rat)]) (by
        intro z hz
        simp at hz
        rcases hz with rfl | rfl
        · exact qS i hi
        · exact Sm.int (by have := hg4 i; omega) (by decide)) (by simp) τ
      have e1 : Fx.sumR [q i, (g i : Rat)] = q i + (g i : Rat) := by simp [Fx.sumR, Rat.zero_add]
      rw [e1] at ls
      simp only [List.map_cons, List.map_nil] at ls
      rw [← Fx.fr_int] at ls
      unfold K_law_changes_right_1
      generalize tL n g = G at *
      simp -implicitDefEqProofs [exs, ex, ev, evA, evT, evP, evO, evI, look_br, look_own, share_br, slotOf_br, setAll, shareAll, evD, wipeE, a1, a3, ls]
    rw [show ((List.range n).map fun i => fr (q i + (g i : Rat))) = qL n fun i => q i + (g i : Rat) from rfl]
    have nbT : prim1 (.notB true) (.bool true) = some (.sh (.d (.bool false))) := rfl
    simp -implicitDefEqProofs [exs, ex, ev, evA, evT, evP, evO, evI, look_br, look_own, share_br, slotOf_br, setAll, shareAll, tkP, nbT, rM, tkM, rG]
    rw [comp_in (e := C_law_changes_right_0) (List.range n) (fun i => fr (q i)) (fun i => fr (q i * (k : Rat))) rfl (by simp -implicitDefEqProofs [exs, ex, ev, evA, evT, evP, evO, evI, look_br, look_own, share_br, slotOf_br, setAll, shareAll, qL]) (by simp [noOwn]; omega) rfl ?hs]
    case hs =>
      intro i hi
      have hi := List.mem_range.mp hi
      refine ⟨_, rfl, rfl, rfl, ?_⟩
      have lt := fun τ => ltimes_ok (qS i hi) sk (by decide) τ
      rw [← Fx.fr_int] at lt
      unfold K_law_changes_right_0
      simp -implicitDefEqProofs [exs, ex, ev, evA, evT, evP, evO, evI, look_br, look_own, share_br, slotOf_br, setAll, shareAll, evD, wipeE, lt]
    rw [show ((List.range n).map fun i => fr (q i * (k : Rat))) = qL n fun i => q i * (k : Rat) from rfl]
    simp -implicitDefEqProofs [exs, ex, ev, evA, evT, evP, evO, evI, look_br, look_own, share_br, slotOf_br, setAll, shareAll, rG, tkG, nbT]
    have j1 := fun τ => joinedM_ok hf τ
    have j2 := fun τ => joinedM_ok hO τ
    have j3 := fun τ => joinedM_ok hA τ
    have eJ2 : (fun i j => (potO g f i j).isSome) = fun i j => (f i j).isSome := by funext i j; simp [potO]
    have eJ3 : joinedF n (fun i j => (acrO f i j).isSome) = joinedF n fun i j => (f i j).isSome := joined_acr n fun i j => (f i j).isSome
    rw [eJ2] at j2
    rw [eJ3] at j3
    have eJM : (fun i j => (moveO f b i j).isSome) = fun i j => (f i j).isSome := by funext i j; unfold moveO; cases f i j <;> rfl
    have eJG : (fun i j => (facO k f i j).isSome) = fun i j => (f i j).isSome := by funext i j; simp [facO]
    have ibF : prim1 (.isB false) (.bool false) = some (.sh (.d (.bool true))) := rfl
    cases hj : joinedF n (fun i j => (f i j).isSome) with
    | false =>
      rw [hj] at j1 j2 j3
      simp -implicitDefEqProofs [exs, ex, ev, evA, evT, evP, evO, evI, look_br, look_own, share_br, slotOf_br, setAll, shareAll, j1, j2, j3, ibF]
    | true =>
      rw [hj] at j1
      have lr1 := fun τ => lregime_ok hf sB rf τ
      have lr2 := fun τ => lregime_ok hO sB rO τ
      unfold lregD at lr1 lr2
      rw [eJ2, hj, reg_pot] at lr2
      rw [hj] at lr1
      have g2 := fun τ => regime_ok hO (by rw [eJ2]; exact hj) sB rO τ
      have g3 := fun τ => regime_ok hM (by rw [eJM]; exact hj) sM rM τ
      have g4 := fun τ => regime_ok hG (by rw [eJG]; exact hj) sG rG τ
      have g5 := fun τ => regime_ok hA (by rw [eJ3]; exact hj) sB rA τ
      rw [reg_pot] at g2
      rw [reg_move] at g3
      rw [reg_fac (by omega) hj B (by omega)] at g4
      rw [reg_acr] at g5
      cases hz : regF n f B with
      | none =>
        rw [hz] at lr1 lr2
        simp only [if_true] at lr1 lr2
        simp -implicitDefEqProofs [exs, ex, ev, evA, evT, evP, evO, evI, look_br, look_own, share_br, slotOf_br, setAll, shareAll, j1, lr1, lr2]
      | some p =>
        obtain ⟨m', r'⟩ := p
        obtain ⟨tt, b1, b2, b3⟩ := reg_tst hz
        have hd := (tst_iff.mp tt).1
        rw [hz] at lr1 g2 g3 g4 g5
        simp only [if_true] at lr1
        simp only [regD, time_move hd, time_fac hd] at lr1 g2 g3 g4 g5
        have sR : Sm 10 ((r' : Int) : Rat) := Sm.int (by omega) (by decide)
        have sT := (sB.mul sR).1
        generalize (B * ((r' : Int) : Rat)).num = T at *
        have q1 : bitsOk r' b = true := Fx.bits_of (by omega) (by omega)
        have q2 : bitsOk k T = true := Fx.bits_k (k := 10) (m := 20) (by omega) sT (by omega) (by omega)
        have in1 : ∀ z, isNone (.tuple z) = false := fun z => rfl
        simp -implicitDefEqProofs [exs, ex, ev, evA, evT, evP, evO, evI, look_br, look_own, share_br, slotOf_br, setAll, shareAll, j1, lr1, g2, g3, g4, g5, tg_n, tg_t, tgs_n, tgs_c, bin_mul, q1, q2, cmp_ne_self (lay_tup3 _ _ _) (by decide), cmp_eq_self (lay_tup3 _ _ _) (by decide)]
end K42

set_option Elab.async false
set_option linter.all false
set_option maxRecDepth 100000
set_option maxHeartbeats 4000000
/-! K42tt: the law. -/
namespace K42
open PySem PySem.Spec PyProof.Rows L2 Dv
open Fx (fr Sm Tk)
theorem law_runs : ∀ ns, okNs ns → ns.length ≤ 100000 ∧ ∃ τ', exs Φ A_law (lawEnv N_law.length 1) (tape0 ns) = .ret (.d (.bool true)) τ' := fun ns hns => by
  refine ⟨by have := hns.1; omega, ?_⟩
  have t0 : Tk 100000 (tape0 ns) := (Fx.tape0_ok ns).mono (by decide)
  generalize tape0 ns = τ0 at *
  obtain ⟨a, τ1, e1, a0, a1, t1⟩ := Fx.draw (Φ := Φ) Φ_law_take (n := 90000) (many := 4) (t0.mono (by decide)) (by decide) (by decide)
  obtain ⟨n, hn⟩ : ∃ n : Nat, 1 + a = n := ⟨(1 + a).toNat, by omega⟩
  obtain ⟨f, τ2, e2, lf, t2⟩ := line_draw (n := 80000) (m := n) (by omega) (t1.mono (by decide))
  obtain ⟨b, τ3, e3, b0, b1, t3⟩ := Fx.draw (Φ := Φ) Φ_law_take (n := 70000) (many := 2) (t2.mono (by decide)) (by decide) (by decide)
  obtain ⟨m, hm⟩ : ∃ m : Nat, 1 + b = m := ⟨(1 + b).toNat, by omega⟩
  obtain ⟨g, τ4, e4, lg, t4⟩ := line_draw (n := 60000) (m := m) (by omega) (t3.mono (by decide))
  obtain ⟨τ5, e5, t5⟩ := changes_ok (n := n) (by omega) (by omega) lf (k0 := 50000) (t4.mono (by decide))
  obtain ⟨τ6, e6, t6⟩ := names_ok (ln_of (n := n) (f := f) (by omega) (by omega) fun i j w _ _ hw => by have := lf i j w hw; omega) (ln_of (n := m) (f := g) (by omega) (by omega) fun i j w _ _ hw => by have := lg i j w hw; omega) (by omega) (by omega) (k0 := 40000) (t5.mono (by decide))
  obtain ⟨τ7, e7⟩ := queues_ok (t6.mono (by decide))
  refine ⟨τ7, ?_⟩
  unfold A_law
  simp -implicitDefEqProofs [exs, ex, ev, evA, evT, evP, evO, evI, look_br, look_own, share_br, slotOf_br, setAll, shareAll, lawEnv, N_law, e1, hn, e2, e3, hm, e4, e5, e6, e7]
end K42

set_option Elab.async false
set_option linter.all false
set_option maxRecDepth 100000
set_option maxHeartbeats 4000000
/-! the tape is made -/
namespace K42
open PySem PySem.Spec PyProof.Rows L2 Dv
def N_tape : List Str := ["script", "cells", "seed", "cell"]
theorem scTape : FnScope N_tape ["script"] (defScope (top ix_law_tape)) := ⟨rfl, rfl, rfl, by decide +kernel, rfl, by decide +kernel, by decide +kernel⟩
section
variable {P : Program} {w : World} {K : PySem.W.Frag} {mg : Str → Option Value} {base : Heap}
theorem ok_tape {f : Addr} {fd : FuncData} (F : FunD K "_law_tape" "_law_tape" (defArgs (top ix_law_tape)) (defBody (top ix_law_tape)) (defScope (top ix_law_tape)) [] [] f fd) (gA : mg "abs" = none) (gI : mg "int" = none) :
    FnOk P w K mg base (L2.CX P w) 1 f fd ["script"] (spTape K) := by
  refine F.ok scTape (fun vs H Q E h => ?_) (fun cdv A outer s H vs Q E hr h => ?_)
  · obtain ⟨a, ns, rfl, _⟩ := h
    rfl
  · obtain ⟨a, ns, rfl, hS, hl, hQ⟩ := h
    refine ⟨_, pss_cons (ps_setLc (i := 1) (own := [("cell", 3)]) rfl scTape.nd rfl rfl (sw_true rfl rfl rfl (by decide +kernel)) (pi_list (pe_var (i := 0) rfl (.inl rfl))) (blkOk_by (by show blkC N_tape (defScope (top ix_law_tape)) _ _ = true; decide +kernel))
        (fun _ _ _ _ _ => pg_name (i := 3) scTape.nd rfl (.inl rfl) (.inr rfl)) (fun _ _ _ _ _ => pts_nil)
        (fun _ _ _ _ _ => pe_callB call_abs rfl gA (by decide +kernel) (pa_cons (pe_callTy call_int1 rfl gI (by decide +kernel) (pa_cons (pe_var (i := 3) rfl (.inl rfl)) pa_nil)) pa_nil)))
      (pss_cons (ps_set (i := 2) scTape.nd rfl (.inl rfl) pe_int)
      (pss_cons (ps_for (passes_of rfl) rfl (pi_list (pe_var (i := 1) rfl (.inl rfl))) (pg_name (i := 3) scTape.nd rfl (.inl rfl) (.inl rfl))
        (pss_one (ps_set (i := 2) scTape.nd rfl (.inl rfl) (pe_op op_modN (pe_callTy call_int1 rfl gI (by decide +kernel) (pa_cons (pe_op op_add (pe_op op_mulB (pe_var (i := 2) rfl (.inl rfl)) pe_int) (pe_var (i := 3) rfl (.inl rfl))) pa_nil)) pe_int))))
      (pss_one (ps_ret (pe_disp (pps_cons pe_str (pe_var (i := 1) rfl (.inl rfl)) (pps_cons pe_str pe_int (pps_cons pe_str pe_int (pps_cons pe_str (pe_var (i := 2) rfl (.inl rfl)) (pps_cons pe_str pe_int pps_nil))))) rfl rfl (by simp) (by decide)))))), ?_⟩
    refine ⟨_, rfl, a, rfl, ⟨_, hS⟩, fun D hD => ?_⟩
    refine lc_list (K := K) (a := a) (xs := ns.map V.int) (fun i H' => H' D = some (.lst (((ns.take i).map absI).map V.int)) ∧ Sub H H') ⟨upd_same, Sub.new hD⟩ (fun i H' _ p => sub_l p.2 hS) (fun i x H' hx p => ?_) (fun H1 p1 => ?_)
    · rw [List.getElem?_map] at hx
      obtain ⟨n, hn, rfl⟩ := Option.map_eq_some_iff.mp hx
      refine ⟨rfl, ?_⟩
      refine ⟨.int n, rfl, .inl ⟨n, rfl, n, rfl, _, p.1, ?_, ?_, p.2.mut hD⟩⟩
      · have e : ((ns.take i).map absI).length ≤ ns.length := by simp; omega
        rw [List.length_map, sizeLine_eq]
        omega
      · rw [upd_same]
        have e : ns.take (i + 1) = ns.take i ++ [n] := by rw [List.take_add_one, hn]; rfl
        rw [e]
        simp [absI]
    · rw [List.length_map, List.take_length] at p1
      refine ⟨_, rfl, D, rfl, ⟨_, SqL.of p1.1⟩, ?_⟩
      refine for_list (K := K) (a := D) (xs := (ns.map absI).map V.int) (fun i σ H' => H' = H1 ∧ ∃ v, σ = [some (.ref a), some (.ref D), some (.int (seedOf 7 ((ns.map absI).take i))), v]) ⟨rfl, none, rfl⟩ (fun i σ H' _ p => by rw [p.1]; exact SqL.of p1.1) ?_ ?_
      · rintro i x σ H' hx ⟨rfl, v, rfl⟩
        rw [List.getElem?_map] at hx
        obtain ⟨n, hn, rfl⟩ := Option.map_eq_some_iff.mp hx
        have hr := seedOf_range ((ns.map absI).take i) 7 (by decide) (by decide)
        refine ⟨_, rfl, _, _, rfl, rfl, bits_small hr.1 hr.2, _, rfl, _, _, rfl, rfl, .inl ⟨_, rfl, _, _, rfl, rfl, (by show (2147483647 : Int) ≠ 0; decide), rfl, some (.int n), ?_⟩⟩
        have e : (ns.map absI).take (i + 1) = (ns.map absI).take i ++ [n] := by rw [List.take_add_one, hn]; rfl
        rw [e]
        unfold seedOf
        rw [List.foldl_append]
        rfl
      · rintro σ H' ⟨rfl, v, rfl⟩
        rw [List.length_map, List.take_length]
        intro T hT
        have nD : T ≠ D := fun e => by
          rw [e, p1.1] at hT
          cases hT
        refine ⟨_, rfl, _, rfl, ?_⟩
        refine ⟨upd_same, [(.inr "cells", .ref D), (.inr "at", .int 0), (.inr "left", .int 0), (.inr "seed", .int (seedOf 7 (ns.map absI))), (.inr "salt", .int 0)], rfl, (by show 5 ≤ 15; decide), ?_⟩
        refine hQ _ T D (fun b o e => ?_) hD (p1.2.none hT) nD ?_ ?_
        · rw [upd_ne (ne_of_none (p1.2 b o e) hT), upd_ne (ne_of_none (p1.2 b o e) hT)]
          exact p1.2 b o e
        · rw [upd_ne (Ne.symm nD), upd_ne (Ne.symm nD)]
          exact p1.1
        · rw [upd_same]
          rfl
end
end K42

set_option Elab.async false
set_option linter.all false
set_option maxRecDepth 100000
set_option maxHeartbeats 8000000
/-! K42h -/
namespace K42
open PySem PySem.Spec PyProof.Rows L2 Dv
def fn : List He.DefD := [dAt "share" (top 5), dAt "times" (top 6), dAt "less" (top 7), dAt "check_line" (top 10), dAt "later" (top 11), dAt "joined" (top 12), dAt "line_image" (top 13), dAt "line_product" (top 14), dAt "line_power" (top 15), dAt "run_line" (top 16), dAt "circles" (top 17), dAt "mean_of" (top 18), dAt "rate" (top 19), dAt "rate_paper" (top 20), dAt "takes_rate" (top 21), dAt "is_joined" (top 22), dAt "regime" (top 23), dAt "moved_by" (top 24), dAt "check_chain" (top 28), dAt "job_times" (top 29), dAt "pace" (top 30), dAt "least_window" (top 31), dAt "waiting" (top 32), dAt "_law_tape" (top 34), dAt "_law_take" (top 35), dAt "_law_gcd" (top 36), dAt "_law_ratio" (top 37), dAt "_law_sum" (top 38), dAt "_law_times" (top 39), dAt "_law_line" (top 40), dAt "_law_plus" (top 41), dAt "_law_regime" (top 42), dAt "_law_renamed" (top 43), dAt "_law_changes_right" (top 44), dAt "_law_names_right" (top 45), dAt "_law_queues_right" (top 46), dAt "law" (top 47)]
def fa : List He.Fa := [.glo "share", .glo "times", .glo "less", .glo "check_line", .glo "later", .glo "joined", .glo "line_image", .glo "line_product", .glo "line_power", .glo "run_line", .glo "circles", .glo "mean_of", .glo "rate", .glo "rate_paper", .glo "takes_rate", .glo "is_joined", .glo "regime", .glo "moved_by", .glo "check_chain", .glo "job_times", .glo "pace", .glo "least_window", .glo "waiting", .glo "_law_tape", .glo "_law_take", .glo "_law_gcd", .glo "_law_ratio", .glo "_law_sum", .glo "_law_times", .glo "_law_line", .glo "_law_plus", .glo "_law_regime", .glo "_law_renamed", .glo "_law_changes_right", .glo "_law_names_right", .glo "_law_queues_right", .glo "law", .glo "InvalidLine", .glo "InvalidShare", .free "len", .free "abs", .free "int", .free "max", .free "min", .free "sum", .free "all", .free "any", .free "tuple", .free "list", .free "sorted", .free "range", .free "zip", .free "enumerate", .free "reversed", .free "set", .int "MOST_SIZE" 6, .int "MOST_WINDOW" 6, .int "MOST_SERVERS" 4, .exc "InvalidLine", .exc "InvalidShare", .exm "InvalidLine" "InvalidLine" true, .exm "InvalidShare" "InvalidShare" true]
def tf : List He.Defn := []
def csts : List (Str × D) := [("MOST_SERVERS", (.int 4)), ("MOST_SIZE", (.int 6)), ("MOST_WINDOW", (.int 6))]
def excs : List Str := ["InvalidLine", "InvalidShare"]
section
variable {P : Program} {w : World} {K : PySem.W.Frag} {mg : Str → Option Value} {base h : Heap} {TL : List (Addr × Str)}
structure Zz (K : PySem.W.Frag) (mg : Str → Option Value) (h : Heap) : Prop where
  X : K.In h
  G : h.Ns mainGlobals mg
  c : He.SaysD fa fn K
  M : Mo K mg csts excs
theorem sc_share : FnScope N_share ["n", "d"] (defScope (top 5)) := ⟨rfl, rfl, rfl, by decide +kernel, rfl, by decide +kernel, by decide +kernel⟩
theorem pr_share (Z : Zz K mg h) : Pr P w K mg base TL Φ 1 "share" 2 :=
  pr_def Z.X Z.G Z.c (st := top 5) (by simp [fn]) (by simp [fa]) sc_share (Tops.of (g := g_share) (kk := 0) Z.M (by simp [g_share, csts]) (by simp [g_share, excs]) trivial) chk_share eq_share (fun _ _ _ _ _ _ us hl => match us, hl with | [_, _], _ => rfl)
theorem sc_less : FnScope N_less ["a", "b"] (defScope (top 7)) := ⟨rfl, rfl, rfl, by decide +kernel, rfl, by decide +kernel, by decide +kernel⟩
theorem pr_less (Z : Zz K mg h) : Pr P w K mg base TL Φ 1 "less" 2 :=
  pr_def Z.X Z.G Z.c (st := top 7) (by simp [fn]) (by simp [fa]) sc_less (Tops.of (g := g_less) (kk := 0) Z.M (by simp [g_less, csts]) (by simp [g_less, excs]) trivial) chk_less eq_less (fun _ _ _ _ _ _ us hl => match us, hl with | [_, _], _ => rfl)
theorem sc_check_line : FnScope N_check_line ["line"] (defScope (top 10)) := ⟨rfl, rfl, rfl, by decide +kernel, rfl, by decide +kernel, by decide +kernel⟩
theorem pr_check_line (Z : Zz K mg h) : Pr P w K mg base TL Φ 1 "check_line" 1 :=
  pr_def Z.X Z.G Z.c (st := top 10) (by simp [fn]) (by simp [fa]) sc_check_line (Tops.of (g := g_check_line) (kk := 0) Z.M (by simp [g_check_line, csts]) (by simp [g_check_line, excs]) trivial) chk_check_line eq_check_line (fun _ _ _ _ _ _ us hl => match us, hl with | [_], _ => rfl)
theorem sc_later : FnScope N_later ["a", "b"] (defScope (top 11)) := ⟨rfl, rfl, rfl, by decide +kernel, rfl, by decide +kernel, by decide +kernel⟩
theorem pr_later (Z : Zz K mg h) : Pr P w K mg base TL Φ 1 "later" 2 :=
  pr_def Z.X Z.G Z.c (st := top 11) (by simp [fn]) (by simp [fa]) sc_later (Tops.of (g := g_later) (kk := 0) Z.M (by simp [g_later, csts]) (by simp [g_later, excs]) trivial) chk_later eq_later (fun _ _ _ _ _ _ us hl => match us, hl with | [_, _], _ => rfl)
theorem sc_joined : FnScope N_joined ["a", "b"] (defScope (top 12)) := ⟨rfl, rfl, rfl, by decide +kernel, rfl, by decide +kernel, by decide +kernel⟩
theorem pr_joined (Z : Zz K mg h) : Pr P w K mg base TL Φ 1 "joined" 2 :=
  pr_def Z.X Z.G Z.c (st := top 12) (by simp [fn]) (by simp [fa]) sc_joined (Tops.of (g := g_joined) (kk := 0) Z.M (by simp [g_joined, csts]) (by simp [g_joined, excs]) trivial) chk_joined eq_joined (fun _ _ _ _ _ _ us hl => match us, hl with | [_, _], _ => rfl)
theorem sc_check_chain : FnScope N_check_chain ["times", "window", "back"] (defScope (top 28)) := ⟨rfl, rfl, rfl, by decide +kernel, rfl, by decide +kernel, by decide +kernel⟩
theorem pr_check_chain (Z : Zz K mg h) : Pr P w K mg base TL Φ 1 "check_chain" 3 :=
  pr_def Z.X Z.G Z.c (st := top 28) (by simp [fn]) (by simp [fa]) sc_check_chain (Tops.of (g := g_check_chain) (kk := 0) Z.M (by simp [g_check_chain, csts]) (by simp [g_check_chain, excs]) trivial) chk_check_chain eq_check_chain (fun _ _ _ _ _ _ us hl => match us, hl with | [_, _, _], _ => rfl)
theorem sc_law_take : FnScope N_law_take ["tape", "many"] (defScope (top 35)) := ⟨rfl, rfl, rfl, by decide +kernel, rfl, by decide +kernel, by decide +kernel⟩
theorem pr_law_take (Z : Zz K mg h) : Pr P w K mg base TL Φ 1 "_law_take" 2 :=
  pr_def Z.X Z.G Z.c (st := top 35) (by simp [fn]) (by simp [fa]) sc_law_take (Tops.of (g := g_law_take) (kk := 0) Z.M (by simp [g_law_take, csts]) (by simp [g_law_take, excs]) trivial) chk_law_take eq_law_take (fun _ _ _ _ _ _ us hl => match us, hl with | [_, _], _ => rfl)
theorem sc_law_gcd : FnScope N_law_gcd ["a", "b"] (defScope (top 36)) := ⟨rfl, rfl, rfl, by decide +kernel, rfl, by decide +kernel, by decide +kernel⟩
theorem pr_law_gcd (Z : Zz K mg h) : Pr P w K mg base TL Φ 1 "_law_gcd" 2 :=
  pr_def Z.X Z.G Z.c (st := top 36) (by simp [fn]) (by simp [fa]) sc_law_gcd (Tops.of (g := g_law_gcd) (kk := 0) Z.M (by simp [g_law_gcd, csts]) (by simp [g_law_gcd, excs]) trivial) chk_law_gcd eq_law_gcd (fun _ _ _ _ _ _ us hl => match us, hl with | [_, _], _ => rfl)
theorem sc_law_plus : FnScope N_law_plus ["a", "b"] (defScope (top 41)) := ⟨rfl, rfl, rfl, by decide +kernel, rfl, by decide +kernel, by decide +kernel⟩
theorem pr_law_plus (Z : Zz K mg h) : Pr P w K mg base TL Φ 1 "_law_plus" 2 :=
  pr_def Z.X Z.G Z.c (st := top 41) (by simp [fn]) (by simp [fa]) sc_law_plus (Tops.of (g := g_law_plus) (kk := 0) Z.M (by simp [g_law_plus, csts]) (by simp [g_law_plus, excs]) trivial) chk_law_plus eq_law_plus (fun _ _ _ _ _ _ us hl => match us, hl with | [_, _], _ => rfl)
theorem sc_law_renamed : FnScope N_law_renamed ["circle", "names"] (defScope (top 43)) := ⟨rfl, rfl, rfl, by decide +kernel, rfl, by decide +kernel, by decide +kernel⟩
theorem pr_law_renamed (Z : Zz K mg h) : Pr P w K mg base TL Φ 1 "_law_renamed" 2 :=
  pr_def Z.X Z.G Z.c (st := top 43) (by simp [fn]) (by simp [fa]) sc_law_renamed (Tops.of (g := g_law_renamed) (kk := 0) Z.M (by simp [g_law_renamed, csts]) (by simp [g_law_renamed, excs]) trivial) chk_law_renamed eq_law_renamed (fun _ _ _ _ _ _ us hl => match us, hl with | [_, _], _ => rfl)
theorem sc_times : FnScope N_times ["a", "b"] (defScope (top 6)) := ⟨rfl, rfl, rfl, by decide +kernel, rfl, by decide +kernel, by decide +kernel⟩
theorem pr_times (Z : Zz K mg h) : Pr P w K mg base TL Φ 2 "times" 2 :=
  pr_def Z.X Z.G Z.c (st := top 6) (by simp [fn]) (by simp [fa]) sc_times (Tops.of (g := g_times) (kk := 1) Z.M (by simp [g_times, csts]) (by simp [g_times, excs]) ⟨(pr_share Z).mono (by decide), trivial⟩) chk_times eq_times (fun _ _ _ _ _ _ us hl => match us, hl with | [_, _], _ => rfl)
theorem sc_line_image : FnScope N_line_image ["line", "row"] (defScope (top 13)) := ⟨rfl, rfl, rfl, by decide +kernel, rfl, by decide +kernel, by decide +kernel⟩
theorem pr_line_image (Z : Zz K mg h) : Pr P w K mg base TL Φ 2 "line_image" 2 :=
  pr_def Z.X Z.G Z.c (st := top 13) (by simp [fn]) (by simp [fa]) sc_line_image (Tops.of (g := g_line_image) (kk := 1) Z.M (by simp [g_line_image, csts]) (by simp [g_line_image, excs]) ⟨(pr_joined Z).mono (by decide), (pr_later Z).mono (by decide), trivial⟩) chk_line_image eq_line_image (fun _ _ _ _ _ _ us hl => match us, hl with | [_, _], _ => rfl)
theorem sc_circles : FnScope N_circles ["line"] (defScope (top 17)) := ⟨rfl, rfl, rfl, by decide +kernel, rfl, by decide +kernel, by decide +kernel⟩
theorem pr_circles (Z : Zz K mg h) : Pr P w K mg base TL Φ 2 "circles" 1 :=
  pr_def Z.X Z.G Z.c (st := top 17) (by simp [fn]) (by simp [fa]) sc_circles (Tops.of (g := g_circles) (kk := 1) Z.M (by simp [g_circles, csts]) (by simp [g_circles, excs]) ⟨(pr_check_line Z).mono (by decide), trivial⟩) chk_circles eq_circles (fun _ _ _ _ _ _ us hl => match us, hl with | [_], _ => rfl)
theorem sc_mean_of : FnScope N_mean_of ["line", "circle"] (defScope (top 18)) := ⟨rfl, rfl, rfl, by decide +kernel, rfl, by decide +kernel, by decide +kernel⟩
theorem pr_mean_of (Z : Zz K mg h) : Pr P w K mg base TL Φ 2 "mean_of" 2 :=
  pr_def Z.X Z.G Z.c (st := top 18) (by simp [fn]) (by simp [fa]) sc_mean_of (Tops.of (g := g_mean_of) (kk := 1) Z.M (by simp [g_mean_of, csts]) (by simp [g_mean_of, excs]) ⟨(pr_share Z).mono (by decide), trivial⟩) chk_mean_of eq_mean_of (fun _ _ _ _ _ _ us hl => match us, hl with | [_, _], _ => rfl)
theorem sc_is_joined : FnScope N_is_joined ["line"] (defScope (top 22)) := ⟨rfl, rfl, rfl, by decide +kernel, rfl, by decide +kernel, by decide +kernel⟩
theorem pr_is_joined (Z : Zz K mg h) : Pr P w K mg base TL Φ 2 "is_joined" 1 :=
  pr_def Z.X Z.G Z.c (st := top 22) (by simp [fn]) (by simp [fa]) sc_is_joined (Tops.of (g := g_is_joined) (kk := 1) Z.M (by simp [g_is_joined, csts]) (by simp [g_is_joined, excs]) ⟨(pr_check_line Z).mono (by decide), trivial⟩) chk_is_joined eq_is_joined (fun _ _ _ _ _ _ us hl => match us, hl with | [_], _ => rfl)
theorem sc_moved_by : FnScope N_moved_by ["line", "number"] (defScope (top 24)) := ⟨rfl, rfl, rfl, by decide +kernel, rfl, by decide +kernel, by decide +kernel⟩
theorem pr_moved_by (Z : Zz K mg h) : Pr P w K mg base TL Φ 2 "moved_by" 2 :=
  pr_def Z.X Z.G Z.c (st := top 24) (by simp [fn]) (by simp [fa]) sc_moved_by (Tops.of (g := g_moved_by) (kk := 1) Z.M (by simp [g_moved_by, csts]) (by simp [g_moved_by, excs]) ⟨(pr_joined Z).mono (by decide), trivial⟩) chk_moved_by eq_moved_by (fun _ _ _ _ _ _ us hl => match us, hl with | [_, _], _ => rfl)
theorem sc_job_times : FnScope N_job_times ["times", "window", "back", "comes"] (defScope (top 29)) := ⟨rfl, rfl, rfl, by decide +kernel, rfl, by decide +kernel, by decide +kernel⟩
theorem pr_job_times (Z : Zz K mg h) : Pr P w K mg base TL Φ 2 "job_times" 4 :=
  pr_def Z.X Z.G Z.c (st := top 29) (by simp [fn]) (by simp [fa]) sc_job_times (Tops.of (g := g_job_times) (kk := 1) Z.M (by simp [g_job_times, csts]) (by simp [g_job_times, excs]) ⟨(pr_check_chain Z).mono (by decide), trivial⟩) chk_job_times eq_job_times (fun _ _ _ _ _ _ us hl => match us, hl with | [_, _, _, _], _ => rfl)
theorem sc_pace : FnScope N_pace ["times", "window", "back"] (defScope (top 30)) := ⟨rfl, rfl, rfl, by decide +kernel, rfl, by decide +kernel, by decide +kernel⟩
theorem pr_pace (Z : Zz K mg h) : Pr P w K mg base TL Φ 2 "pace" 3 :=
  pr_def Z.X Z.G Z.c (st := top 30) (by simp [fn]) (by simp [fa]) sc_pace (Tops.of (g := g_pace) (kk := 1) Z.M (by simp [g_pace, csts]) (by simp [g_pace, excs]) ⟨(pr_check_chain Z).mono (by decide), (pr_less Z).mono (by decide), (pr_share Z).mono (by decide), trivial⟩) chk_pace eq_pace (fun _ _ _ _ _ _ us hl => match us, hl with | [_, _, _], _ => rfl)
theorem sc_law_ratio : FnScope N_law_ratio ["n", "d"] (defScope (top 37)) := ⟨rfl, rfl, rfl, by decide +kernel, rfl, by decide +kernel, by decide +kernel⟩
theorem pr_law_ratio (Z : Zz K mg h) : Pr P w K mg base TL Φ 2 "_law_ratio" 2 :=
  pr_def Z.X Z.G Z.c (st := top 37) (by simp [fn]) (by simp [fa]) sc_law_ratio (Tops.of (g := g_law_ratio) (kk := 1) Z.M (by simp [g_law_ratio, csts]) (by simp [g_law_ratio, excs]) ⟨(pr_law_gcd Z).mono (by decide), trivial⟩) chk_law_ratio eq_law_ratio (fun _ _ _ _ _ _ us hl => match us, hl with | [_, _], _ => rfl)
theorem sc_law_line : FnScope N_law_line ["tape", "size"] (defScope (top 40)) := ⟨rfl, rfl, rfl, by decide +kernel, rfl, by decide +kernel, by decide +kernel⟩
theorem pr_law_line (Z : Zz K mg h) : Pr P w K mg base TL Φ 2 "_law_line" 2 :=
  pr_def Z.X Z.G Z.c (st := top 40) (by simp [fn]) (by simp [fa]) sc_law_line (Tops.of (g := g_law_line) (kk := 1) Z.M (by simp [g_law_line, csts]) (by simp [g_law_line, excs]) ⟨(pr_law_take Z).mono (by decide), trivial⟩) chk_law_line eq_law_line (fun _ _ _ _ _ _ us hl => match us, hl with | [_, _], _ => rfl)
theorem sc_line_product : FnScope N_line_product ["one", "other"] (defScope (top 14)) := ⟨rfl, rfl, rfl, by decide +kernel, rfl, by decide +kernel, by decide +kernel⟩
theorem pr_line_product (Z : Zz K mg h) : Pr P w K mg base TL Φ 3 "line_product" 2 :=
  pr_def Z.X Z.G Z.c (st := top 14) (by simp [fn]) (by simp [fa]) sc_line_product (Tops.of (g := g_line_product) (kk := 2) Z.M (by simp [g_line_product, csts]) (by simp [g_line_product, excs]) ⟨(pr_line_image Z).mono (by decide), trivial⟩) chk_line_product eq_line_product (fun _ _ _ _ _ _ us hl => match us, hl with | [_, _], _ => rfl)
theorem sc_run_line : FnScope N_run_line ["line", "row", "many"] (defScope (top 16)) := ⟨rfl, rfl, rfl, by decide +kernel, rfl, by decide +kernel, by decide +kernel⟩
theorem pr_run_line (Z : Zz K mg h) : Pr P w K mg base TL Φ 3 "run_line" 3 :=
  pr_def Z.X Z.G Z.c (st := top 16) (by simp [fn]) (by simp [fa]) sc_run_line (Tops.of (g := g_run_line) (kk := 2) Z.M (by simp [g_run_line, csts]) (by simp [g_run_line, excs]) ⟨(pr_check_line Z).mono (by decide), (pr_line_image Z).mono (by decide), trivial⟩) chk_run_line eq_run_line (fun _ _ _ _ _ _ us hl => match us, hl with | [_, _, _], _ => rfl)
theorem sc_rate : FnScope N_rate ["line"] (defScope (top 19)) := ⟨rfl, rfl, rfl, by decide +kernel, rfl, by decide +kernel, by decide +kernel⟩
theorem pr_rate (Z : Zz K mg h) : Pr P w K mg base TL Φ 3 "rate" 1 :=
  pr_def Z.X Z.G Z.c (st := top 19) (by simp [fn]) (by simp [fa]) sc_rate (Tops.of (g := g_rate) (kk := 2) Z.M (by simp [g_rate, csts]) (by simp [g_rate, excs]) ⟨(pr_circles Z).mono (by decide), (pr_less Z).mono (by decide), (pr_mean_of Z).mono (by decide), trivial⟩) chk_rate eq_rate (fun _ _ _ _ _ _ us hl => match us, hl with | [_], _ => rfl)
theorem sc_takes_rate : FnScope N_takes_rate ["line", "told", "paper"] (defScope (top 21)) := ⟨rfl, rfl, rfl, by decide +kernel, rfl, by decide +kernel, by decide +kernel⟩
theorem pr_takes_rate (Z : Zz K mg h) : Pr P w K mg base TL Φ 3 "takes_rate" 3 :=
  pr_def Z.X Z.G Z.c (st := top 21) (by simp [fn]) (by simp [fa]) sc_takes_rate (Tops.of (g := g_takes_rate) (kk := 2) Z.M (by simp [g_takes_rate, csts]) (by simp [g_takes_rate, excs]) ⟨(pr_check_line Z).mono (by decide), (pr_less Z).mono (by decide), (pr_mean_of Z).mono (by decide), (pr_share Z).mono (by decide), trivial⟩) chk_takes_rate eq_takes_rate (fun _ _ _ _ _ _ us hl => match us, hl with | [_, _, _], _ => rfl)
theorem sc_least_window : FnScope N_least_window ["times", "back"] (defScope (top 31)) := ⟨rfl, rfl, rfl, by decide +kernel, rfl, by decide +kernel, by decide +kernel⟩
theorem pr_least_window (Z : Zz K mg h) : Pr P w K mg base TL Φ 3 "least_window" 2 :=
  pr_def Z.X Z.G Z.c (st := top 31) (by simp [fn]) (by simp [fa]) sc_least_window (Tops.of (g := g_least_window) (kk := 2) Z.M (by simp [g_least_window, csts]) (by simp [g_least_window, excs]) ⟨(pr_check_chain Z).mono (by decide), (pr_pace Z).mono (by decide), trivial⟩) chk_least_window eq_least_window (fun _ _ _ _ _ _ us hl => match us, hl with | [_, _], _ => rfl)
theorem sc_waiting : FnScope N_waiting ["times", "window", "back", "comes"] (defScope (top 32)) := ⟨rfl, rfl, rfl, by decide +kernel, rfl, by decide +kernel, by decide +kernel⟩
theorem pr_waiting (Z : Zz K mg h) : Pr P w K mg base TL Φ 3 "waiting" 4 :=
  pr_def Z.X Z.G Z.c (st := top 32) (by simp [fn]) (by simp [fa]) sc_waiting (Tops.of (g := g_waiting) (kk := 2) Z.M (by simp [g_waiting, csts]) (by simp [g_waiting, excs]) ⟨(pr_job_times Z).mono (by decide), trivial⟩) chk_waiting eq_waiting (fun _ _ _ _ _ _ us hl => match us, hl with | [_, _, _, _], _ => rfl)
theorem sc_law_sum : FnScope N_law_sum ["row"] (defScope (top 38)) := ⟨rfl, rfl, rfl, by decide +kernel, rfl, by decide +kernel, by decide +kernel⟩
theorem pr_law_sum (Z : Zz K mg h) : Pr P w K mg base TL Φ 3 "_law_sum" 1 :=
  pr_def Z.X Z.G Z.c (st := top 38) (by simp [fn]) (by simp [fa]) sc_law_sum (Tops.of (g := g_law_sum) (kk := 2) Z.M (by simp [g_law_sum, csts]) (by simp [g_law_sum, excs]) ⟨(pr_law_ratio Z).mono (by decide), trivial⟩) chk_law_sum eq_law_sum (fun _ _ _ _ _ _ us hl => match us, hl with | [_], _ => rfl)
theorem sc_law_times : FnScope N_law_times ["a", "b"] (defScope (top 39)) := ⟨rfl, rfl, rfl, by decide +kernel, rfl, by decide +kernel, by decide +kernel⟩
theorem pr_law_times (Z : Zz K mg h) : Pr P w K mg base TL Φ 3 "_law_times" 2 :=
  pr_def Z.X Z.G Z.c (st := top 39) (by simp [fn]) (by simp [fa]) sc_law_times (Tops.of (g := g_law_times) (kk := 2) Z.M (by simp [g_law_times, csts]) (by simp [g_law_times, excs]) ⟨(pr_law_ratio Z).mono (by decide), trivial⟩) chk_law_times eq_law_times (fun _ _ _ _ _ _ us hl => match us, hl with | [_, _], _ => rfl)
theorem sc_line_power : FnScope N_line_power ["line", "many"] (defScope (top 15)) := ⟨rfl, rfl, rfl, by decide +kernel, rfl, by decide +kernel, by decide +kernel⟩
theorem pr_line_power (Z : Zz K mg h) : Pr P w K mg base TL Φ 4 "line_power" 2 :=
  pr_def Z.X Z.G Z.c (st := top 15) (by simp [fn]) (by simp [fa]) sc_line_power (Tops.of (g := g_line_power) (kk := 3) Z.M (by simp [g_line_power, csts]) (by simp [g_line_power, excs]) ⟨(pr_check_line Z).mono (by decide), (pr_line_product Z).mono (by decide), trivial⟩) chk_line_power eq_line_power (fun _ _ _ _ _ _ us hl => match us, hl with | [_, _], _ => rfl)
theorem sc_rate_paper : FnScope N_rate_paper ["line"] (defScope (top 20)) := ⟨rfl, rfl, rfl, by decide +kernel, rfl, by decide +kernel, by decide +kernel⟩
theorem pr_rate_paper (Z : Zz K mg h) : Pr P w K mg base TL Φ 4 "rate_paper" 1 :=
  pr_def Z.X Z.G Z.c (st := top 20) (by simp [fn]) (by simp [fa]) sc_rate_paper (Tops.of (g := g_rate_paper) (kk := 3) Z.M (by simp [g_rate_paper, csts]) (by simp [g_rate_paper, excs]) ⟨(pr_circles Z).mono (by decide), (pr_mean_of Z).mono (by decide), (pr_rate Z).mono (by decide), (pr_share Z).mono (by decide), trivial⟩) chk_rate_paper eq_rate_paper (fun _ _ _ _ _ _ us hl => match us, hl with | [_], _ => rfl)
theorem sc_law_names_right : FnScope N_law_names_right ["tape", "line", "more"] (defScope (top 45)) := ⟨rfl, rfl, rfl, by decide +kernel, rfl, by decide +kernel, by decide +kernel⟩
theorem pr_law_names_right (Z : Zz K mg h) : Pr P w K mg base TL Φ 4 "_law_names_right" 3 :=
  pr_def Z.X Z.G Z.c (st := top 45) (by simp [fn]) (by simp [fa]) sc_law_names_right (Tops.of (g := g_law_names_right) (kk := 3) Z.M (by simp [g_law_names_right, csts]) (by simp [g_law_names_right, excs]) ⟨(pr_law_renamed Z).mono (by decide), (pr_law_take Z).mono (by decide), (pr_circles Z).mono (by decide), (pr_rate Z).mono (by decide), trivial⟩) chk_law_names_right eq_law_names_right (fun _ _ _ _ _ _ us hl => match us, hl with | [_, _, _], _ => rfl)
theorem sc_law_queues_right : FnScope N_law_queues_right ["tape"] (defScope (top 46)) := ⟨rfl, rfl, rfl, by decide +kernel, rfl, by decide +kernel, by decide +kernel⟩
theorem pr_law_queues_right (Z : Zz K mg h) : Pr P w K mg base TL Φ 4 "_law_queues_right" 1 :=
  pr_def Z.X Z.G Z.c (st := top 46) (by simp [fn]) (by simp [fa]) sc_law_queues_right (Tops.of (g := g_law_queues_right) (kk := 3) Z.M (by simp [g_law_queues_right, csts]) (by simp [g_law_queues_right, excs]) ⟨(pr_law_take Z).mono (by decide), (pr_law_times Z).mono (by decide), (pr_job_times Z).mono (by decide), (pr_least_window Z).mono (by decide), (pr_pace Z).mono (by decide), (pr_waiting Z).mono (by decide), trivial⟩) chk_law_queues_right eq_law_queues_right (fun _ _ _ _ _ _ us hl => match us, hl with | [_], _ => rfl)
theorem sc_regime : FnScope N_regime ["line"] (defScope (top 23)) := ⟨rfl, rfl, rfl, by decide +kernel, rfl, by decide +kernel, by decide +kernel⟩
theorem pr_regime (Z : Zz K mg h) : Pr P w K mg base TL Φ 5 "regime" 1 :=
  pr_def Z.X Z.G Z.c (st := top 23) (by simp [fn]) (by simp [fa]) sc_regime (Tops.of (g := g_regime) (kk := 4) Z.M (by simp [g_regime, csts]) (by simp [g_regime, excs]) ⟨(pr_is_joined Z).mono (by decide), (pr_line_power Z).mono (by decide), (pr_line_product Z).mono (by decide), (pr_moved_by Z).mono (by decide), (pr_rate Z).mono (by decide), (pr_times Z).mono (by decide), trivial⟩) chk_regime eq_regime (fun _ _ _ _ _ _ us hl => match us, hl with | [_], _ => rfl)
theorem sc_law_regime : FnScope N_law_regime ["line"] (defScope (top 42)) := ⟨rfl, rfl, rfl, by decide +kernel, rfl, by decide +kernel, by decide +kernel⟩
theorem pr_law_regime (Z : Zz K mg h) : Pr P w K mg base TL Φ 6 "_law_regime" 1 :=
  pr_def Z.X Z.G Z.c (st := top 42) (by simp [fn]) (by simp [fa]) sc_law_regime (Tops.of (g := g_law_regime) (kk := 5) Z.M (by simp [g_law_regime, csts]) (by simp [g_law_regime, excs]) ⟨(pr_regime Z).mono (by decide), trivial⟩) chk_law_regime eq_law_regime (fun _ _ _ _ _ _ us hl => match us, hl with | [_], _ => rfl)
theorem sc_law_changes_right : FnScope N_law_changes_right ["tape", "line"] (defScope (top 44)) := ⟨rfl, rfl, rfl, by decide +kernel, rfl, by decide +kernel, by decide +kernel⟩
theorem pr_law_changes_right (Z : Zz K mg h) : Pr P w K mg base TL Φ 7 "_law_changes_right" 2 :=
  pr_def Z.X Z.G Z.c (st := top 44) (by simp [fn]) (by simp [fa]) sc_law_changes_right (Tops.of (g := g_law_changes_right) (kk := 6) Z.M (by simp [g_law_changes_right, csts]) (by simp [g_law_changes_right, excs]) ⟨(pr_law_plus Z).mono (by decide), (pr_law_regime Z).mono (by decide), (pr_law_sum Z).mono (by decide), (pr_law_take Z).mono (by decide), (pr_law_times Z).mono (by decide), (pr_circles Z).mono (by decide), (pr_is_joined Z).mono (by decide), (pr_line_power Z).mono (by decide), (pr_mean_of Z).mono (by decide), (pr_moved_by Z).mono (by decide), (pr_rate Z).mono (by decide), (pr_rate_paper Z).mono (by decide), (pr_regime Z).mono (by decide), (pr_run_line Z).mono (by decide), (pr_takes_rate Z).mono (by decide), trivial⟩) chk_law_changes_right eq_law_changes_right (fun _ _ _ _ _ _ us hl => match us, hl with | [_, _], _ => rfl)
def lvlLaw : Nat := 7
theorem sc_law : FnScope N_law ["script"] (defScope (top 47)) := ⟨rfl, rfl, rfl, by decide +kernel, rfl, by decide +kernel, by decide +kernel⟩
theorem tops_law (Z : Zz K mg h) : Tops P w K mg base TL Φ g_law 7 := Tops.of Z.M (by simp [g_law, csts]) (by simp [g_law, excs]) ⟨(pr_law_changes_right Z).mono (by decide), (pr_law_line Z).mono (by decide), (pr_law_names_right Z).mono (by decide), (pr_law_queues_right Z).mono (by decide), (pr_law_take Z).mono (by decide), trivial⟩
end
end K42

set_option Elab.async false
set_option linter.all false
set_option maxRecDepth 100000
set_option maxHeartbeats 0
/-! K42z: the end. -/
namespace K42
open PySem PySem.Spec PyProof.Rows L2 Dv
abbrev R : PySem.W.OpenRow := PySem.W.OpenLaw.row PySem.Challenge.rw_heldsteady_k42_whole_lines_and_queues_be
def ex (_ : PySem.W.Frag) : Bool := true
abbrev hk : PySem.W.Hook := He.hookX 4 fa fn [] tf ex
def ob (s : PySem.W.SharedT) : He.AlX := He.obsX 4 fa fn [] tf ex (HandSHeadRun.getT s)
theorem ob_eq (s : PySem.W.SharedT) : ob s = hk.obs s.abs := He.obsX_eq (HandSHeadRun.getT_eq s)
def loose : List Str := (R.prog.main.scope.names.map (·.1)).filter fun x => x != "__name__" && x != "law"
theorem run (w : World) : HandSHeadRun.RunEq R (PySem.W.view R.prog [ix_law]) hk ob 40000 loose w := by
  intro os
  kernel_rfl
section
variable {P : Program} {w : World} {K : PySem.W.Frag} {mg : Str → Option Value} {base h : Heap}
theorem zz (X : K.In base) (G : base.Ns mainGlobals mg) (c : He.SaysD fa fn K) : Zz K mg base :=
  ⟨X, G, c, mo_of X G c (by simp [csts, fa]) (by simp [bltNames, fa]) (by simp [excs, fa])⟩
theorem ok_law (X : K.In base) (G : base.Ns mainGlobals mg) (c : He.SaysD fa fn K) {fd : FuncData} (F : FunD K "law" "law" (defArgs (top ix_law)) (defBody (top ix_law)) (defScope (top ix_law)) [] [] (He.ga K "law") fd) :
    FnOk P w K mg base (L2.CX P w) (lvlLaw + 3) (He.ga K "law") fd ["script"] (spLaw K [] okNs) := by
  have Z := zz X G c
  obtain ⟨fdT, FT⟩ := fun_of (st := top ix_law_tape) (x := "_law_tape") c (by simp [fn, ix_law_tape])
  have okT : FnOk P w K mg base (L2.CX P w) 1 (He.ga K "_law_tape") fdT ["script"] (spTape K) := ok_tape FT (Z.M.blt _ (by simp [bltNames])) (Z.M.blt _ (by simp [bltNames]))
  have bT : Binds K fdT ["script"] [] := FT.bindsN fun _ _ _ _ _ _ us hl => match us, hl with | [_], _ => rfl
  exact law_ok (it := 1) (r := none) F sc_law (tops_law Z) rfl (by unfold L2.Vis; decide +kernel) (by decide +kernel) (by unfold L2.Loc; decide +kernel) (by decide +kernel) (glo_of X G c (by simp [fa])) FT.kp bT okT (by decide) chk_law
    (fun q hq cA hcA => by cases hq) law_runs
end
end K42
open PySem PySem.W PySem.Calls PyProof.Rows
theorem PySem.Challenge.cw_heldsteady_k42_whole_lines_and_queues_be_holds : PySem.Challenge.rw_heldsteady_k42_whole_lines_and_queues_be.Holds := by
  w_on; o_law
  refine HandSHeadRun.head_any (r := OpenLaw.row PySem.Challenge.rw_heldsteady_k42_whole_lines_and_queues_be) (q := view (OpenLaw.row PySem.Challenge.rw_heldsteady_k42_whole_lines_and_queues_be).prog [K42.ix_law]) (H := K42.hk) (ob := K42.ob) (M := 40000) (loose := K42.loose) (d := HandSHeadRun.topDef (OpenLaw.row PySem.Challenge.rw_heldsteady_k42_whole_lines_and_queues_be).prog K42.ix_law) (kwd := []) K42.ob_eq
    (by kernel_rfl) (fun s => by kernel_rfl) K42.run (by kernel_rfl) (by kernel_rfl) (by kernel_rfl) (by rfl) (by first | assumption | decide +kernel) (by decide +kernel) ⟨rfl, rfl, rfl, rfl, rfl, by decide +kernel⟩ ?hw ?hc
  case hw => w_witness2
  case hc =>
    refine LamX.walk_ofTsE (l := PySem.Challenge.rw_heldsteady_k42_whole_lines_and_queues_be) (n := 63) (k := K42.lvlLaw + 3) (x := "script") (CX := fun w => L2.CX (PySem.Challenge.rw_heldsteady_k42_whole_lines_and_queues_be).prog w) rfl (by decide) (by kernel_rfl) ⟨rfl, by decide, by decide⟩ ?F (fun _ H s e s' => Dv.cx_false H s e s')
    intro w mg fa h Y G hmg0
    obtain ⟨K, KX, c⟩ := Y
    have c1 : He.SaysD K42.fa K42.fn K := congrArg (fun z : He.AlT => z.1) c.t
    have hmg : mg ("law" : PySem.Str) = some (.ref fa) := by
      have e : (HandSHeadRun.topDef (OpenLaw.row PySem.Challenge.rw_heldsteady_k42_whole_lines_and_queues_be).prog K42.ix_law).name = ("law" : PySem.Str) := by kernel_rfl
      rw [← e]
      exact hmg0
    obtain ⟨fd, F⟩ := Dv.fun_of (st := K42.top K42.ix_law) (x := "law") c1 (by simp [K42.fn, K42.ix_law])
    have e := hmg.symm.trans (Dv.glo_of KX G c1 (x := "law") (by simp [K42.fa]))
    cases e
    have b := L2.FunD.bindsA (ps := ["script"]) F fun _ _ _ _ _ _ us hl => match us, hl with | [_], _ => rfl
    exact ⟨K, KX, Dv.law_at0 (ex := K42.ex) (fun s v => b s [v] rfl) fun base X G => K42.ok_law X G c1 F⟩
