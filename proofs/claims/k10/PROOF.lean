import PyProof.Rows.All
import Wide.All
import OpenK.AllK
import Wide.FinOn
import PySem.Challenge.RW_batchpipe_k10_a_fill
import PySem.Str
import HandS.ForMost
import HandS.Wide
import HandS.Deep
import HandS.Exc
import HandS.TryMany
import HandS.TryOnly
import HandS.ExcOwn
import HandS.ExcIs
import HandS.ExcField
import HandS.IsInst
import HandS.TupLen
import HandS.Conv
import PyProof.Rows.StrMeet
import PyProof.Rows.TmSorted
import HandS.CallSlots
import HandS.WordsExc
import KE.KExcIs
import HandS.More
import HandS.Small
import HandS.Rev
import HandS.Zip
import HandS.Comp
import HandS.Codes
import HandS.Defaults
import HandS.ExcInit
import HandS.Head0
import HandS.Head1
import HandS.Head2
import HandS.HeadEnd
import HandS.HeadHook1
import HandS.HeadHook2
set_option autoImplicit false
set_option linter.all false
set_option Elab.async false
set_option maxRecDepth 100000
/-! E1: a small evaluator for the Python that the program and the laws use. -/
namespace E1
open PySem (Str)

inductive D where
  | non | bl (b : Bool) | int (i : Int) | str (x : Str)
  | tup (xs : List D) | fl (xs : List D)
  | fd (tk : Bool) (ks : List D) (vs : List D)
  | obj (C : String) (ns : List String) (vs : List D)
  | exn (C : String) (ns : List String) (vs : List D)
  | ref (a : Nat)
  | scr (ns : List Int)
  deriving Inhabited

inductive Cell where
  | lst (xs : List D)
  | dic (tk : Bool) (ks : List D) (vs : List D)
  | ins (C : String) (ns : List String) (vs : List D)
  | set (xs : List D)

abbrev Store := List Cell
abbrev Slots := List (Option D)

structure Exn where
  cls : String
  ns : List String
  vs : List D

inductive R (α : Type) where
  | ok (a : α) (S : Store) | exc (x : Exn) (S : Store) | no

@[simp] def R.bind {α β : Type} : R α → (α → Store → R β) → R β
  | .ok a S, f => f a S
  | .exc x S, _ => .exc x S
  | .no, _ => .no

inductive Bop | add | addB | sub | mul | mulB | fdiv | mod | pow
inductive Cop | eq | ne | lt | le | gt | ge | isN | notN | inn | notIn

inductive Blt | len | abs | min2 | max2 | sum | list (box : Bool) | tuple | int | str | all | any | sorted (box : Bool)

mutual
inductive Ex where
  | var (i : Nat)
  | lit (d : D)
  | glob (x : String)
  | bin (op : Bop) (a b : Ex)
  | neg (a : Ex) | not (a : Ex)
  | cmp (op : Cop) (a b : Ex)
  | chain (o1 o2 : Cop) (a b c : Ex)
  | and (a b : Ex) | or (a b : Ex)
  | ifx (c a b : Ex)
  | tup (es : Exs) | lst (box : Bool) (es : Exs) | dic (tk : Bool)
  | sub (a i : Ex)
  | slc (box : Bool) (a : Ex) (lo hi : OEx)
  | att (a : Ex) (f : String)
  | call (fz : Bool) (f : String) (es : Exs)
  | make (fz : Bool) (C : String) (es : Exs)
  | meth (fz : Bool) (a : Ex) (m : String) (es : Exs)
  | blt (b : Blt) (es : Exs)
  | isi (a : Ex) (ts : List String)
  | bm (m : String) (box : Bool) (a : Ex) (es : Exs)
  | comp (box : Bool) (elt : Ex) (tg : Tg) (it : It) (cond : OEx) (own : List Nat)
  | frz (e : Ex)
inductive Exs where
  | nil | cons (e : Ex) (es : Exs)
inductive OEx where
  | no | so (e : Ex)
inductive It where
  | ex (e : Ex) | rng (es : Exs) | enum (e : Ex) | zip (a b : Ex) | items (e : Ex) | rev (e : Ex)
inductive Tg where
  | name (i : Nat) | att (e : Ex) (f : String) | sub (e i : Ex) | tup (ts : Tgs)
inductive Tgs where
  | nil | cons (t : Tg) (ts : Tgs)
end

mutual
inductive St where
  | expr (e : Ex)
  | asg (t : Tg) (e : Ex)
  | par (i j : Nat) (a b : Ex)
  | aug (i : Nat) (op : Bop) (e : Ex)
  | ite (c : Ex) (a b : Sts)
  | for_ (tg : Tg) (it : It) (body : Sts)
  | while_ (c : Ex) (body : Sts)
  | ret (e : Ex) | retN | pass | cont | brk
  | raise (C : String) (es : Exs)
  | try_ (body : Sts) (hs : Hs)
  | fz (i : Nat) (s : St)
inductive Sts where
  | nil | cons (s : St) (ss : Sts)
inductive Hs where
  | nil | cons (Cs : List String) (name : Option Nat) (suite : Sts) (hs : Hs)
end

/-! ### plain functions on values -/
def LINE : Nat := 16777216

mutual
def noref : D → Bool
  | .tup xs => norefs xs
  | .fl xs => norefs xs
  | .fd _ ks vs => norefs ks && norefs vs
  | .obj _ _ vs => norefs vs
  | .exn _ _ vs => norefs vs
  | .ref _ => false
  | _ => true
def norefs : List D → Bool
  | [] => true
  | x :: r => noref x && norefs r
end
mutual
def flat : D → Bool
  | .tup xs => flats xs
  | .fl _ => false
  | .fd _ _ _ => false
  | .obj _ _ _ => false
  | .exn _ _ _ => false
  | .ref _ => false
  | .scr _ => false
  | _ => true
def flats : List D → Bool
  | [] => true
  | x :: r => flat x && flats r
end

def dataK : Nat → D → Bool
  | _, .non => true | _, .bl _ => true | _, .int _ => true | _, .str _ => true
  | k + 1, .tup xs => xs.all (dataK k)
  | k + 1, .fl xs => xs.all (dataK k)
  | _, _ => false
def DK : Nat := 40
mutual
def deqB : D → D → Bool
  | .non, .non => true
  | .bl a, .bl b => a == b
  | .bl a, .int j => (if a then 1 else 0) == j
  | .int i, .bl b => i == (if b then 1 else 0)
  | .int a, .int b => a == b
  | .str a, .str b => a == b
  | .tup xs, .tup ys => deqBs xs ys
  | .fl xs, .fl ys => deqBs xs ys
  | _, _ => false
def deqBs : List D → List D → Bool
  | [], [] => true
  | x :: xs, y :: ys => deqB x y && deqBs xs ys
  | [], _ :: _ => false
  | _ :: _, [] => false
end
def deq (x y : D) : Option Bool := if dataK DK x && dataK DK y then some (deqB x y) else none

def rb (S : Store) : D → D
  | .ref a => match S[a]? with
    | some (.lst xs) => .fl xs
    | some (.dic tk ks vs) => .fd tk ks vs
    | some (.ins C ns vs) => .obj C ns vs
    | _ => .ref a
  | d => d
def rbl (S : Store) : D → D
  | .scr ns => .fl (ns.map .int)
  | d => rb S d
def listM (S : Store) (d : D) : Option (List D) :=
  match rb S d with
  | .fl xs => some xs
  | _ => none
def listOf (S : Store) (d : D) : Option (List D) :=
  match rbl S d with
  | .fl xs => some xs
  | _ => none
def seqOf (S : Store) (d : D) : Option (List D) :=
  match rbl S d with
  | .fl xs => some xs
  | .tup xs => some xs
  | _ => none

def frz : Nat → Store → D → Option D
  | 0, _, d => if noref d then some d else none
  | k + 1, S, d => if noref d then some d else
    match rb S d with
    | .fl xs => (xs.mapM (frz k S)).map .fl
    | .tup xs => (xs.mapM (frz k S)).map .tup
    | .obj C ns vs => (vs.mapM (frz k S)).map (.obj C ns)
    | .fd tk ks vs => if norefs ks then (vs.mapM (frz k S)).map (.fd tk ks) else none
    | _ => none

mutual
def below (m : Nat) : D → Bool
  | .tup xs => belows m xs
  | .fl xs => belows m xs
  | .fd _ ks vs => belows m ks && belows m vs
  | .obj _ _ vs => belows m vs
  | .exn _ _ vs => belows m vs
  | .ref a => decide (a < m)
  | _ => true
def belows (m : Nat) : List D → Bool
  | [] => true
  | x :: r => below m x && belows m r
end
def cellB (m : Nat) : Cell → Bool
  | .lst xs => belows m xs
  | .dic _ ks vs => belows m ks && belows m vs
  | .ins _ _ vs => belows m vs
  | .set _ => false
def frzF (m : Nat) : Nat → Store → D → Option D
  | 0, _, d => if noref d then some d else none
  | k + 1, S, d => if noref d then some d else
    match d with
    | .ref i => if m ≤ i then
        (match S[i]? with
        | some (.lst xs) => (xs.mapM (frzF m k S)).map .fl
        | some (.ins C ns vs) => (vs.mapM (frzF m k S)).map (.obj C ns)
        | some (.dic tk ks vs) => if norefs ks then (vs.mapM (frzF m k S)).map (.fd tk ks) else none
        | _ => none)
      else none
    | .fl xs => (xs.mapM (frzF m k S)).map .fl
    | .tup xs => (xs.mapM (frzF m k S)).map .tup
    | .obj C ns vs => (vs.mapM (frzF m k S)).map (.obj C ns)
    | .fd tk ks vs => if norefs ks then (vs.mapM (frzF m k S)).map (.fd tk ks) else none
    | _ => none
def freeze (m : Nat) (d : D) (S : Store) : R D :=
  if m ≤ S.length ∧ (S.take m).all (cellB m) = true then
    match frzF m 6 S d with
    | some d' => .ok d' (S.take m)
    | none => .no
  else .no
def alloc (box : Bool) (xs : List D) (S : Store) : R D :=
  if xs.length ≤ LINE then
    if box then .ok (.ref S.length) (S ++ [.lst xs]) else .ok (.fl xs) S
  else .no

def ixN (n : Nat) (i : Int) : Option Nat :=
  if 0 ≤ i then (if i < n then some i.toNat else none)
  else if -(n : Int) ≤ i then some (i + n).toNat else none
def at? (xs : List D) (i : Int) : Option D := (ixN xs.length i).bind fun j => xs[j]?

def cut1 (n : Nat) (d : Nat) : Option Int → Nat
  | none => d
  | some i => if i < 0 then (i + n).toNat else min i.toNat n
def cut {α : Type} (xs : List α) (lo hi : Option Int) : List α :=
  (xs.drop (cut1 xs.length 0 lo)).take (cut1 xs.length xs.length hi - cut1 xs.length 0 lo)

def ints? : List D → Option (List Int)
  | [] => some []
  | .int i :: r => (ints? r).map (i :: ·)
  | _ => none
def bls? : List D → Option (List Bool)
  | [] => some []
  | .bl b :: r => (bls? r).map (b :: ·)
  | _ => none

def strAt? (x : Str) (i : Int) : Option Str := (ixN x.length i).bind fun j => x.cps[j]?.map fun c => ⟨#[c]⟩
def strCut (x : Str) (lo hi : Option Int) : Str := ⟨(cut x.cps.toList lo hi).toArray⟩
def signs (x : Str) : List D := x.cps.toList.map fun c => .str ⟨#[c]⟩

def mulOk (i j : Int) : Prop := i.natAbs.log2 + j.natAbs.log2 < 1000000
def divOk (j : Int) : Prop := 0 < j ∧ j.natAbs.log2 < 9000
instance (i j : Int) : Decidable (mulOk i j) := by unfold mulOk; infer_instance
instance (j : Int) : Decidable (divOk j) := by unfold divOk; infer_instance

def bop (op : Bop) (x y : D) (S : Store) : R D :=
  match op, x, y with
  | .add, .int i, .int j => .ok (.int (i + j)) S
  | .sub, .int i, .int j => .ok (.int (i - j)) S
  | .mul, .int i, .int j => if mulOk i j then .ok (.int (i * j)) S else .no
  | .fdiv, .int i, .int j => if divOk j then .ok (.int (i / j)) S else .no
  | .mod, .int i, .int j => if 0 < j then .ok (.int (i % j)) S else .no
  | .pow, .int i, .int j => if 0 ≤ j ∧ j ≤ 1000 ∧ i.natAbs < 2 ^ 64 then .ok (.int (i ^ j.toNat)) S else .no
  | .add, .str i, .str j => if i.length + j.length ≤ LINE then .ok (.str (i ++ j)) S else .no
  | .add, .tup (x :: xs), .tup (y :: ys) => if (x :: xs).length + (y :: ys).length ≤ LINE then .ok (.tup ((x :: xs) ++ (y :: ys))) S else .no
  | .add, x, y => match listM S x, listM S y with
    | some xs, some ys => if xs.length + ys.length ≤ LINE then alloc false (xs ++ ys) S else .no
    | _, _ => .no
  | .addB, x, y => match listM S x, listM S y with
    | some xs, some ys => if xs.length + ys.length ≤ LINE then alloc true (xs ++ ys) S else .no
    | _, _ => .no
  | .mul, x, .int k => match listM S x with
    | some xs => if k.toNat * xs.length ≤ LINE ∧ -(2 ^ 63) ≤ k ∧ k < 2 ^ 63 then alloc false (List.replicate k.toNat xs).flatten S else .no
    | _ => .no
  | .mulB, x, .int k => match listM S x with
    | some xs => if k.toNat * xs.length ≤ LINE ∧ -(2 ^ 63) ≤ k ∧ k < 2 ^ 63 then alloc true (List.replicate k.toNat xs).flatten S else .no
    | _ => .no
  | _, _, _ => .no

def rbd (S : Store) (d : D) : D :=
  match frz 6 S d with
  | some d' => d'
  | none => rb S d
def inD (x : D) (ys : List D) : Option Bool := if dataK DK x && ys.all (dataK DK) then some (ys.any fun y => deqB y x) else none

def isStrD : D → Bool
  | .str _ => true
  | _ => false
def isKey : Bool → D → Bool
  | false, .int _ => true
  | false, .str _ => true
  | true, .tup (d :: ds) => (d :: ds).all isStrD
  | _, _ => false
def findKey (k : D) : List D → Option Nat
  | [] => none
  | x :: r => if deqB x k then some 0 else (findKey k r).map (· + 1)
def keyAt (tk : Bool) (k : D) (ks : List D) : Option (Option Nat) := if isKey tk k then some (findKey k ks) else none

def cop (op : Cop) (x y : D) (S : Store) : R D :=
  match op, x, y with
  | .lt, .int i, .int j => .ok (.bl (decide (i < j))) S
  | .le, .int i, .int j => .ok (.bl (decide (i ≤ j))) S
  | .gt, .int i, .int j => .ok (.bl (decide (j < i))) S
  | .ge, .int i, .int j => .ok (.bl (decide (j ≤ i))) S
  | .isN, .non, .non => .ok (.bl true) S
  | .isN, _, .non => .ok (.bl false) S
  | .notN, .non, .non => .ok (.bl false) S
  | .notN, _, .non => .ok (.bl true) S
  | .eq, x, y => match deq (rbd S x) (rbd S y) with
    | some b => .ok (.bl b) S
    | none => .no
  | .ne, x, y => match deq (rbd S x) (rbd S y) with
    | some b => .ok (.bl !b) S
    | none => .no
  | .inn, x, y => match rbd S y with
    | .fl ys => match inD (rbd S x) ys with
      | some b => .ok (.bl b) S
      | none => .no
    | _ => match rb S y with
    | .fd tk ks _ => match keyAt tk x ks with
      | some b => .ok (.bl b.isSome) S
      | none => .no
    | _ => .no
  | .notIn, x, y => match rbd S y with
    | .fl ys => match inD (rbd S x) ys with
      | some b => .ok (.bl !b) S
      | none => .no
    | _ => match rb S y with
    | .fd tk ks _ => match keyAt tk x ks with
      | some b => .ok (.bl !b.isSome) S
      | none => .no
    | _ => .no
  | _, _, _ => .no


/-! ### the evaluator -/
def sumI : List Int → Int
  | [] => 0
  | i :: r => i + sumI r

def insS (x : Str) : List Str → List Str
  | [] => [x]
  | y :: ys => if y.cps.toList < x.cps.toList then y :: insS x ys else x :: y :: ys
def srtS : List Str → List Str
  | [] => []
  | x :: xs => insS x (srtS xs)
def strs? : List D → Option (List Str)
  | [] => some []
  | .str x :: r => (strs? r).map (x :: ·)
  | _ => none
def blt (b : Blt) (vs : List D) (S : Store) : R D :=
  match b, vs with
  | .len, [.str x] => if x.length ≤ LINE then .ok (.int x.length) S else .no
  | .len, [d] => match rbl S d with
    | .fl xs => .ok (.int xs.length) S
    | .tup xs => .ok (.int xs.length) S
    | .fd _ _ vs => .ok (.int vs.length) S
    | _ => .no
  | .abs, [.int i] => .ok (.int (if i < 0 then -i else i)) S
  | .min2, [.int i, .int j] => .ok (.int (if j < i then j else i)) S
  | .max2, [.int i, .int j] => .ok (.int (if j > i then j else i)) S
  | .sum, [d] => match listOf S d with
    | some xs => match ints? xs with
      | some is => .ok (.int is.sum) S
      | none => .no
    | none => .no
  | .list b, [d] => match seqOf S d with
    | some xs => alloc b xs S
    | none => .no
  | .tuple, [d] => match listOf S d with
    | some xs => .ok (.tup xs) S
    | none => .no
  | .int, [.int i] => .ok (.int i) S
  | .int, [.bl b] => .ok (.int (if b then 1 else 0)) S
  | .all, [d] => match listOf S d with
    | some xs => match bls? xs with
      | some bs => .ok (.bl (bs.all id)) S
      | none => .no
    | none => .no
  | .any, [d] => match listOf S d with
    | some xs => match bls? xs with
      | some bs => .ok (.bl (bs.any id)) S
      | none => .no
    | none => .no
  | .sorted b, [d] => match listOf S d with
    | some xs => match strs? xs with
      | some ss => if ss.length < 64 then alloc b ((srtS ss).map .str) S else .no
      | none => .no
    | none => .no
  | _, _ => .no

def lookF (f : String) : List String → List D → Option D
  | n :: ns, v :: vs => if n = f then some v else lookF f ns vs
  | _, _ => none
def putF (f : String) (x : D) : List String → List D → List String × List D
  | n :: ns, v :: vs => if n = f then (n :: ns, x :: vs) else ((putF f x ns vs).1.cons n, (putF f x ns vs).2.cons v)
  | _, _ => ([f], [x])

def attF (S : Store) (d : D) (f : String) : Option D :=
  match rb S d with
  | .obj _ ns vs => lookF f ns vs
  | .exn _ ns vs => lookF f ns vs
  | _ => none

def subF (S : Store) (d i : D) : Option D :=
  match rbl S d, i with
  | .fl xs, .int i => at? xs i
  | .tup xs, .int i => at? xs i
  | .str x, .int i => if x.length ≤ LINE then (strAt? x i).map .str else none
  | .fd tk ks vs, k => match keyAt tk k ks with
    | some (some j) => vs[j]?
    | _ => none
  | _, _ => none

structure Env where
  call : String → List D → Store → R D
  glob : String → Option D
  sub : String → String → Bool
  isa : String → String → Option Bool
  fld : String → List String
  has : String → Bool

def kindOf (S : Store) (d : D) : Option String :=
  match rbl S d with
  | .non => some "NoneType"
  | .bl _ => some "bool"
  | .int _ => some "int"
  | .str _ => some "str"
  | .tup _ => some "tuple"
  | .fl _ => some "list"
  | .obj c _ _ => some c
  | .exn c _ _ => some c
  | _ => none
def isT (C : Env) (S : Store) (d : D) (t : String) : Option Bool := (kindOf S d).bind fun k => C.isa k t
def isTs (C : Env) (S : Store) (d : D) : List String → Option Bool
  | [] => some false
  | t :: ts => match isT C S d t, isTs C S d ts with
    | some a, some b => some (a || b)
    | _, _ => none

def frzCall (C : Env) (f : String) (vs : List D) (S : Store) : R D :=
  match vs.mapM (frz 6 S) with
  | some ws => match C.call f ws [] with
    | .ok w S' => match frz 6 S' w with
      | some w' => if norefs vs || flat w' then .ok w' S else .no
      | none => .no
    | .exc x _ => if flats x.vs then .exc x S else .no
    | .no => .no
  | none => .no
def frzMake (C : Env) (c : String) (vs : List D) (S : Store) : R D :=
  if norefs (vs.map (rb S)) && norefs vs then
    match C.call (c ++ ".__init__") (.ref 0 :: vs.map (rb S)) [.ins c [] []] with
    | .ok .non S' => match frz 6 S' (.ref 0) with
      | some w' => .ok w' S
      | none => .no
    | .ok _ _ => .no
    | .exc x _ => if flats x.vs then .exc x S else .no
    | .no => .no
  else .no
def rawMake (C : Env) (c : String) (vs : List D) (S : Store) : R D :=
  (C.call (c ++ ".__init__") (.ref S.length :: vs) (S ++ [.ins c [] []])).bind fun d S' => match d with
    | .non => .ok (.ref S.length) S'
    | _ => .no
def clsOf (S : Store) (d : D) : Option String :=
  match rb S d with
  | .obj c _ _ => some c
  | _ => none

def wipe (σ : Slots) : List Nat → Slots
  | [] => σ
  | v :: vs => (wipe σ vs).set v none

def stands (S : Store) : Option (Nat × List D) → Prop
  | none => True
  | some (a, xs) => S[a]? = some (.lst xs)

open Classical in
noncomputable def compL (asg : D → Slots → Store → R Slots) (tst : Slots → Store → R Bool) (elt : Slots → Store → R D) (own : List Nat) (ck : Option (Nat × List D)) (σ : Slots) : List D → List D → Store → R (List D)
  | [], acc, S => if stands S ck then .ok acc S else .no
  | x :: r, acc, S =>
    if stands S ck ∧ acc.length < LINE then
      match asg x (wipe σ own) S with
      | .ok σ2 S2 => match tst σ2 S2 with
        | .ok true S3 => match elt σ2 S3 with
          | .ok y S4 => compL asg tst elt own ck σ r (acc ++ [y]) S4
          | _ => .no
        | .ok false S3 => compL asg tst elt own ck σ r acc S3
        | _ => .no
      | _ => .no
    else .no

def srcOf (S : Store) (d : D) : Option (List D × Option (Nat × List D)) :=
  match d with
  | .fl xs => some (xs, none)
  | .scr ns => some (ns.map .int, none)
  | .tup xs => some (xs, none)
  | .str x => some (signs x, none)
  | .ref a => match S[a]? with
    | some (.lst xs) => some (xs, some (a, xs))
    | _ => none
  | _ => none
def lsrc (S : Store) (d : D) : Option (List D × Option (Nat × List D)) :=
  match d with
  | .tup _ => none
  | .str _ => none
  | d => srcOf S d
def revOf (S : Store) (d : D) : Option (List D × Option (Nat × List D)) :=
  match d with
  | .str _ => none
  | d => (srcOf S d).map fun w => (w.1.reverse, w.2)
def enumD : Nat → List D → List D
  | _, [] => []
  | k, x :: r => .tup [.int k, x] :: enumD (k + 1) r
def zipD : List D → List D → List D
  | x :: xs, y :: ys => .tup [x, y] :: zipD xs ys
  | _, _ => []
def zipOf (S : Store) (x y : D) : Option (List D × Option (Nat × List D)) :=
  match lsrc S x, lsrc S y with
  | some (xs, none), some (ys, c) => some (zipD xs ys, c)
  | some (xs, c), some (ys, none) => some (zipD xs ys, c)
  | _, _ => match x, y with
    | .tup xs, .tup ys => some (zipD xs ys, none)
    | _, _ => none
def rngD (lo : Int) (c : Int) : Nat → List D
  | 0 => []
  | n + 1 => .int lo :: rngD (lo + c) c n
def rngN (lo hi c : Int) : Nat :=
  if 0 < c then (if lo < hi then ((hi - lo - 1) / c).toNat + 1 else 0)
  else (if hi < lo then ((lo - hi - 1) / (-c)).toNat + 1 else 0)
def small (i : Int) : Prop := -(2 ^ 62) ≤ i ∧ i < 2 ^ 62
instance (i : Int) : Decidable (small i) := by unfold small; infer_instance
def rngOf : List D → Option (List D)
  | [.int n] => if small n then some (rngD 0 1 n.toNat) else none
  | [.int a, .int b] => if small a ∧ small b then some (rngD a 1 (b - a).toNat) else none
  | [.int a, .int b, .int c] => if small a ∧ small b ∧ (c = 1 ∨ c = -1) then some (rngD a c (rngN a b c)) else none
  | _ => none

def setAtt (C : Env) (S : Store) (o : D) (f : String) (v : D) : Option Store :=
  match o with
  | .ref a => match S[a]? with
    | some (.ins c ns vs) => if ns.length < 900 ∧ (C.fld c).contains f = true then some (S.set a (.ins c (putF f v ns vs).1 (putF f v ns vs).2)) else none
    | _ => none
  | _ => none
def putD (k v : D) : List D → List D → List D
  | x :: ks, y :: vs => (if deqB x k then v else y) :: putD k v ks vs
  | _, _ => []
def setDic (tk : Bool) (ks vs : List D) (k v : D) : Option (List D × List D) :=
  if isKey tk k = true ∧ ks.length < LINE then
    match findKey k ks with
    | some _ => some (ks, putD k v ks vs)
    | none => some (ks ++ [k], vs ++ [v])
  else none
def setSub (S : Store) (o i v : D) : Option Store :=
  match o with
  | .ref a => match S[a]? with
    | some (.lst xs) => match i with
      | .int i => (ixN xs.length i).map fun j => S.set a (.lst (xs.set j v))
      | _ => none
    | some (.dic tk ks vs) => (setDic tk ks vs i v).map fun p => S.set a (.dic tk p.1 p.2)
    | _ => none
  | _ => none

def notRef (a : Nat) : D → Bool
  | .ref b => !decide (b = a)
  | _ => true
def bmK (m : String) (d : D) : Bool :=
  match d with
  | .fl _ => m == "append" || m == "extend" || m == "pop" || m == "insert" || m == "clear" || m == "reverse"
  | .fd _ _ _ => m == "get"
  | _ => false
def bmF (m : String) (_box : Bool) (o : D) (vs : List D) (S : Store) : R D :=
  match m, o, vs with
  | "append", .ref a, [v] => match S[a]? with
    | some (.lst xs) => if xs.length < LINE then .ok .non (S.set a (.lst (xs ++ [v]))) else .no
    | _ => .no
  | "extend", .ref a, [v] => match S[a]?, listM S v with
    | some (.lst xs), some ys => if xs.length + ys.length ≤ LINE ∧ notRef a v = true then .ok .non (S.set a (.lst (xs ++ ys))) else .no
    | _, _ => .no
  | "pop", .ref a, [] => match S[a]? with
    | some (.lst xs) => match xs[xs.length - 1]? with
      | some y => .ok y (S.set a (.lst xs.dropLast))
      | none => .no
    | _ => .no
  | "pop", .ref a, [.int i] => match S[a]? with
    | some (.lst xs) => match ixN xs.length i with
      | some j => match xs[j]? with
        | some y => if -(2 ^ 63) ≤ i ∧ i < 2 ^ 63 then .ok y (S.set a (.lst (xs.eraseIdx j))) else .no
        | none => .no
      | none => .no
    | _ => .no
  | "insert", .ref a, [.int i, v] => match S[a]? with
    | some (.lst xs) => if 0 ≤ i ∧ i < 2 ^ 63 ∧ xs.length < LINE then .ok .non (S.set a (.lst (xs.take i.toNat ++ [v] ++ xs.drop i.toNat))) else .no
    | _ => .no
  | "clear", .ref a, [] => match S[a]? with
    | some (.lst _) => .ok .non (S.set a (.lst []))
    | _ => .no
  | "reverse", .ref a, [] => match S[a]? with
    | some (.lst xs) => .ok .non (S.set a (.lst xs.reverse))
    | _ => .no
  | "get", d, [k] => match rb S d with
    | .fd tk ks vs => match keyAt tk k ks with
      | some (some j) => match vs[j]? with
        | some v => .ok v S
        | none => .no
      | some none => .ok .non S
      | none => .no
    | _ => .no
  | "get", d, [k, x] => match rb S d with
    | .fd tk ks vs => match keyAt tk k ks with
      | some (some j) => match vs[j]? with
        | some v => .ok v S
        | none => .no
      | some none => .ok x S
      | none => .no
    | _ => .no
  | _, _, _ => .no

def asB : R D → R Bool
  | .ok (.bl b) S => .ok b S
  | .exc x S => .exc x S
  | _ => .no
def asE {α : Type} (S : Store) : Option α → R α
  | some a => .ok a S
  | none => .no

mutual
noncomputable def ev (C : Env) : Ex → Slots → Store → R D
  | .var i, σ, S => match σ[i]? with
    | some (some d) => .ok d S
    | _ => .no
  | .lit d, _, S => if flat d then .ok d S else .no
  | .glob x, _, S => asE S (C.glob x)
  | .bin op a b, σ, S => (ev C a σ S).bind fun x S => (ev C b σ S).bind fun y S => bop op x y S
  | .neg a, σ, S => (ev C a σ S).bind fun x S => match x with
    | .int i => .ok (.int (-i)) S
    | _ => .no
  | .not a, σ, S => (ev C a σ S).bind fun x S => match x with
    | .bl b => .ok (.bl !b) S
    | _ => .no
  | .cmp op a b, σ, S => (ev C a σ S).bind fun x S => (ev C b σ S).bind fun y S => cop op x y S
  | .chain o1 o2 a b c, σ, S => (ev C a σ S).bind fun x S => (ev C b σ S).bind fun y S => (cop o1 x y S).bind fun r S => match r with
    | .bl true => (ev C c σ S).bind fun z S => cop o2 y z S
    | .bl false => .ok (.bl false) S
    | _ => .no
  | .and a b, σ, S => (ev C a σ S).bind fun x S => match x with
    | .bl true => ev C b σ S
    | .bl false => .ok (.bl false) S
    | _ => .no
  | .or a b, σ, S => (ev C a σ S).bind fun x S => match x with
    | .bl true => .ok (.bl true) S
    | .bl false => ev C b σ S
    | _ => .no
  | .ifx c a b, σ, S => (ev C c σ S).bind fun x S => match x with
    | .bl true => ev C a σ S
    | .bl false => ev C b σ S
    | _ => .no
  | .tup es, σ, S => (evs C es σ S).bind fun vs S => if vs.length ≤ LINE then .ok (.tup vs) S else .no
  | .lst box es, σ, S => (evs C es σ S).bind fun vs S => alloc box vs S
  | .dic tk, _, S => .ok (.ref S.length) (S ++ [.dic tk [] []])
  | .sub a i, σ, S => (ev C a σ S).bind fun x S => (ev C i σ S).bind fun y S => asE S (subF S x y)
  | .slc box a lo hi, σ, S => (ev C a σ S).bind fun x S => (evo C lo σ S).bind fun l S => (evo C hi σ S).bind fun h S => match rbl S x with
    | .fl xs => alloc box (cut xs l h) S
    | .str z => if z.length ≤ LINE then .ok (.str (strCut z l h)) S else .no
    | .tup xs => if (cut xs l h).length < xs.length then .ok (.tup (cut xs l h)) S else .no
    | _ => .no
  | .att a f, σ, S => (ev C a σ S).bind fun x S => asE S (attF S x f)
  | .call fz f es, σ, S => (evs C es σ S).bind fun vs S => if fz then frzCall C f vs S else C.call f vs S
  | .make fz c es, σ, S => (evs C es σ S).bind fun vs S => if fz then frzMake C c vs S else rawMake C c vs S
  | .meth fz a m es, σ, S => (ev C a σ S).bind fun x S => match clsOf S x with
    | some c => if C.has (c ++ "." ++ m) then (evs C es σ S).bind fun vs S => if fz then frzCall C (c ++ "." ++ m) (x :: vs) S else C.call (c ++ "." ++ m) (x :: vs) S else .no
    | none => .no
  | .blt b es, σ, S => (evs C es σ S).bind fun vs S => blt b vs S
  | .isi a ts, σ, S => (ev C a σ S).bind fun x S => asE S ((isTs C S x ts).map .bl)
  | .bm m box a es, σ, S => (ev C a σ S).bind fun x S => if bmK m (rb S x) then (evs C es σ S).bind fun vs S => bmF m box x vs S else .no
  | .comp box elt tg it cond own, σ, S => (evi C it σ S).bind fun w S =>
      (compL (fun d σ S => asg C tg d σ S) (fun σ S => evc C cond σ S) (fun σ S => ev C elt σ S) own w.2 σ w.1 [] S).bind fun xs S => alloc box xs S
  | .frz e, σ, S => (ev C e σ S).bind fun d S' => freeze S.length d S'
noncomputable def evs (C : Env) : Exs → Slots → Store → R (List D)
  | .nil, _, S => .ok [] S
  | .cons e es, σ, S => (ev C e σ S).bind fun x S => (evs C es σ S).bind fun xs S => .ok (x :: xs) S
noncomputable def evo (C : Env) : OEx → Slots → Store → R (Option Int)
  | .no, _, S => .ok none S
  | .so e, σ, S => (ev C e σ S).bind fun x S => match x with
    | .int i => .ok (some i) S
    | _ => .no
noncomputable def evc (C : Env) : OEx → Slots → Store → R Bool
  | .no, _, S => .ok true S
  | .so e, σ, S => asB (ev C e σ S)
noncomputable def evi (C : Env) : It → Slots → Store → R (List D × Option (Nat × List D))
  | .ex e, σ, S => (ev C e σ S).bind fun x S => asE S (srcOf S x)
  | .rng es, σ, S => (evs C es σ S).bind fun vs S => asE S ((rngOf vs).map fun xs => (xs, none))
  | .enum e, σ, S => (ev C e σ S).bind fun x S => asE S ((lsrc S x).map fun w => (enumD 0 w.1, w.2))
  | .zip a b, σ, S => (ev C a σ S).bind fun x S => (ev C b σ S).bind fun y S => asE S (zipOf S x y)
  | .items e, σ, S => (ev C e σ S).bind fun x S => match x with
    | .fd _ ks vs => .ok (zipD ks vs, none) S
    | _ => .no
  | .rev e, σ, S => (ev C e σ S).bind fun x S => asE S (revOf S x)
noncomputable def asg (C : Env) : Tg → D → Slots → Store → R Slots
  | .name i, d, σ, S => if i < σ.length then .ok (σ.set i (some d)) S else .no
  | .att e f, d, σ, S => (ev C e σ S).bind fun o S => match setAtt C S o f d with
    | some S' => .ok σ S'
    | none => .no
  | .sub e i, d, σ, S => (ev C e σ S).bind fun o S => (ev C i σ S).bind fun k S => match setSub S o k d with
    | some S' => .ok σ S'
    | none => .no
  | .tup ts, d, σ, S => match seqOf S d with
    | some xs => asgs C ts xs σ S
    | none => .no
noncomputable def asgs (C : Env) : Tgs → List D → Slots → Store → R Slots
  | .nil, [], σ, S => .ok σ S
  | .cons t ts, x :: xs, σ, S => (asg C t x σ S).bind fun σ S => asgs C ts xs σ S
  | _, _, _, _ => .no
end

def augF (op : Bop) (x y : D) (S : Store) : R D :=
  match op, x, y with
  | .add, .int i, .int j => .ok (.int (i + j)) S
  | .sub, .int i, .int j => .ok (.int (i - j)) S
  | _, _, _ => .no
inductive RS where
  | nx (σ : Slots) (S : Store) | ret (d : D) (σ : Slots) (S : Store) | brk (σ : Slots) (S : Store) | cnt (σ : Slots) (S : Store)
  | exc (x : Exn) (σ : Slots) (S : Store) | no
@[simp] def RS.bind : RS → (Slots → Store → RS) → RS
  | .nx σ S, f => f σ S
  | .ret d σ S, _ => .ret d σ S
  | .brk σ S, _ => .brk σ S
  | .cnt σ S, _ => .cnt σ S
  | .exc x σ S, _ => .exc x σ S
  | .no, _ => .no
def raiseF (C : Env) (c : String) (vs : List D) (σ : Slots) (S : Store) : RS :=
  if C.fld c = [] then (if vs.length ≤ LINE then .exc ⟨c, [], []⟩ σ S else .no)
  else if vs.length = (C.fld c).length ∧ vs.length ≤ 1000 then .exc ⟨c, (C.fld c).reverse, vs.reverse⟩ σ S else .no
@[simp] def R.st {α : Type} (σ : Slots) : R α → (α → Store → RS) → RS
  | .ok a S, f => f a S
  | .exc x S, _ => .exc x σ S
  | .no, _ => .no

open Classical in
noncomputable def forL (asg : D → Slots → Store → R Slots) (body : Slots → Store → RS) (ck : Option (Nat × List D)) : List D → Slots → Store → RS
  | [], σ, S => if stands S ck then .nx σ S else .no
  | x :: r, σ, S => if stands S ck then
      match asg x σ S with
      | .ok σ S => match body σ S with
        | .nx σ S => forL asg body ck r σ S
        | .cnt σ S => forL asg body ck r σ S
        | .brk σ S => .nx σ S
        | .ret d σ S => .ret d σ S
        | .exc x σ S => .exc x σ S
        | .no => .no
      | _ => .no
    else .no

def turnW (test : Slots → Store → R Bool) (body : Slots → Store → RS) (p : Slots × Store) : (Slots × Store) ⊕ RS :=
  match test p.1 p.2 with
  | .ok true S => match body p.1 S with
    | .nx σ S => .inl (σ, S)
    | .cnt σ S => .inl (σ, S)
    | .brk σ S => .inr (.nx σ S)
    | .ret d σ S => .inr (.ret d σ S)
    | .exc x σ S => .inr (.exc x σ S)
    | .no => .inr .no
  | .ok false S => .inr (.nx p.1 S)
  | .exc x S => .inr (.exc x p.1 S)
  | .no => .inr .no
def iterW (f : Slots × Store → (Slots × Store) ⊕ RS) : Nat → Slots × Store → Option RS
  | 0, _ => none
  | n + 1, p => match f p with
    | .inl q => iterW f n q
    | .inr r => some r
open Classical in
noncomputable def whileW (f : Slots × Store → (Slots × Store) ⊕ RS) (p : Slots × Store) : RS :=
  if h : ∃ n, (iterW f n p).isSome then (iterW f h.choose p).getD .no else .no

mutual
noncomputable def ex (C : Env) : St → Slots → Store → RS
  | .expr e, σ, S => (ev C e σ S).st σ fun _ S => .nx σ S
  | .asg t e, σ, S => (ev C e σ S).st σ fun d S => match asg C t d σ S with
    | .ok σ S => .nx σ S
    | _ => .no
  | .par i j a b, σ, S => (ev C a σ S).st σ fun x S => (ev C b σ S).st σ fun y S => if i < σ.length ∧ j < σ.length then .nx ((σ.set i (some x)).set j (some y)) S else .no
  | .aug i op e, σ, S => match σ[i]? with
    | some (some x) => (ev C e σ S).st σ fun y S => (augF op x y S).st σ fun z S => .nx (σ.set i (some z)) S
    | _ => .no
  | .ite c a b, σ, S => (ev C c σ S).st σ fun x S => match x with
    | .bl true => exs C a σ S
    | .bl false => exs C b σ S
    | _ => .no
  | .for_ tg it body, σ, S => (evi C it σ S).st σ fun w S => forL (fun d σ S => asg C tg d σ S) (fun σ S => exs C body σ S) w.2 w.1 σ S
  | .while_ c body, σ, S => whileW (turnW (fun σ S => asB (ev C c σ S)) (fun σ S => exs C body σ S)) (σ, S)
  | .ret e, σ, S => (ev C e σ S).st σ fun d S => .ret d σ S
  | .retN, σ, S => .ret .non σ S
  | .pass, σ, S => .nx σ S
  | .cont, σ, S => .cnt σ S
  | .brk, σ, S => .brk σ S
  | .raise c es, σ, S => (evs C es σ S).st σ fun vs S => raiseF C c vs σ S
  | .try_ body hs, σ, S => match exs C body σ S with
    | .exc x σ S => exh C hs x σ S
    | r => r
  | .fz i s, σ, S => match σ[i]? with
    | some (some (.ref a)) => if a + 1 = S.length then
        match frz 6 S (.ref a) with
        | some d => if norefs ((σ.set i none).filterMap id) then ex C s (σ.set i (some d)) (S.take a) else .no
        | none => .no
      else .no
    | _ => .no
noncomputable def exs (C : Env) : Sts → Slots → Store → RS
  | .nil, σ, S => .nx σ S
  | .cons s ss, σ, S => (ex C s σ S).bind fun σ S => exs C ss σ S
noncomputable def exh (C : Env) : Hs → Exn → Slots → Store → RS
  | .nil, x, σ, S => .exc x σ S
  | .cons cs name suite hs, x, σ, S => if cs.any (C.sub x.cls) then
      match name with
      | some i => if i < σ.length then match exs C suite (σ.set i (some (.exn x.cls x.ns x.vs))) S with
        | .nx σ S => .nx (σ.set i none) S
        | .ret d σ S => .ret d (σ.set i none) S
        | .brk σ S => .brk (σ.set i none) S
        | .cnt σ S => .cnt (σ.set i none) S
        | _ => .no
        else .no
      | none => match exs C suite σ S with
        | .nx σ S => .nx σ S
        | .ret d σ S => .ret d σ S
        | .brk σ S => .brk σ S
        | .cnt σ S => .cnt σ S
        | _ => .no
    else exh C hs x σ S
end

structure Def where
  np : Nat
  nn : Nat
  body : Sts
structure Prog where
  fn : String → Option Def
  glob : String → Option D
  sub : String → String → Bool
  isa : String → String → Option Bool
  fld : String → List String

noncomputable def run (C : Env) (d : Def) (vs : List D) (S : Store) : R D :=
  if vs.length = d.np ∧ d.np ≤ d.nn then
    match exs C d.body (vs.map some ++ List.replicate (d.nn - d.np) none) S with
    | .ret w _ S => .ok w S
    | .nx _ S => .ok .non S
    | .exc x _ S => .exc x S
    | _ => .no
  else .no
noncomputable def call (P : Prog) : Nat → String → List D → Store → R D
  | 0, _, _, _ => .no
  | n + 1, f, vs, S => match P.fn f with
    | some d => run ⟨call P n, P.glob, P.sub, P.isa, P.fld, fun f => (P.fn f).isSome⟩ d vs S
    | none => .no
noncomputable def envOf (P : Prog) (n : Nat) : Env := ⟨call P n, P.glob, P.sub, P.isa, P.fld, fun f => (P.fn f).isSome⟩
theorem call_succ (P : Prog) (n : Nat) (f : String) (vs : List D) (S : Store) (d : Def) (h : P.fn f = some d) : call P (n + 1) f vs S = run (envOf P n) d vs S := by
  show (match P.fn f with | some d => run (envOf P n) d vs S | none => .no) = _
  rw [h]
theorem rngD_len : ∀ {n : Nat} {lo c : Int}, (rngD lo c n).length = n
  | 0, _, _ => rfl
  | n + 1, _, _ => by simp [rngD, rngD_len]
theorem rngD_get : ∀ {n : Nat} {lo c : Int} {i : Nat} {y : D}, (rngD lo c n)[i]? = some y → i < n ∧ y = .int (lo + (i : Nat) * c)
  | 0, _, _, _, _, h => by simp [rngD] at h
  | n + 1, lo, c, 0, y, h => by simp [rngD] at h; exact ⟨by omega, by rw [← h]; simp⟩
  | n + 1, lo, c, i + 1, y, h => by
    simp only [rngD, List.getElem?_cons_succ] at h
    obtain ⟨h1, h2⟩ := rngD_get h
    refine ⟨by omega, ?_⟩
    rw [h2]
    congr 1
    have : ((i + 1 : Nat) : Int) * c = (i : Int) * c + c := by rw [Int.natCast_add, Int.add_mul]; simp
    rw [this]; omega
end E1

/-! E1: how its values and stores stand in the heap. -/
namespace E1
open PySem PySem.Spec PyProof.Rows L2
abbrev Frag := PySem.W.Frag

def NK (_K : Frag) (_H : Hp) : Prop := True
theorem Inv_NK {X : Cx} {pins : List (Addr × Obj)} {σ : L2.St} {H : Hp} {s : Shared} (I : Inv X pins σ H s) : NK X.K H := trivial

/-! ### values -/
def keyD : D → Option Key
  | .int i => some (.inl i)
  | .str x => some (.inr x)
  | _ => none
def keysD : List D → Option (List Key)
  | [] => some []
  | d :: r => match keyD d, keysD r with
    | some k, some ks => some (k :: ks)
    | _, _ => none
inductive KeyR : Bool → D → Key ⊕ List Key → Prop
  | k {d k} : keyD d = some k → KeyR false d (.inl k)
  | t {ds ks} : keysD ds = some ks → KeyR true (.tup ds) (.inr ks)

def KTup (K : Frag) (a : Addr) (xs : List V) : Prop :=
  ∃ (o : Obj) (its : Array Value) (n : Nat), K.lookup a = some o ∧ o.cls = .type "tuple" ∧ o.data = .seq its n ∧ its.size ≤ sizeLine ∧ Vals xs its.toList
def ScrR (K : Frag) (H : Hp) (a : Addr) (xs : List V) : Prop :=
  (∃ o, H a = some (.frz o (.lst xs))) ∨
    ∃ (o : Obj) (its : Array Value) (n : Nat), K.lookup a = some o ∧ o.cls = .type "list" ∧ o.dict = none ∧ o.data = .seq its n ∧ its.size ≤ sizeLine ∧ Vals xs its.toList
theorem ScrR.sq {K : Frag} {H : Hp} {a : Addr} {xs : List V} (h : ScrR K H a xs) : SqL K H a xs := by
  rcases h with ⟨o, h⟩ | h
  · exact .inl (.inr ⟨o, h⟩)
  · exact .inr h

def ExV (cls : Value) (d : Option Addr) (a : Addr) : HO := .ext fun h => ∃ (oe : Obj) (vs : Array Value), h.get? a = some oe ∧ Zc cls d oe ∧ oe.data = .fields vs
section
variable (K : Frag) (cad : String → Option Addr) (ι : List Addr) (B : Addr → Prop) (H : Hp)
mutual
inductive VRel : D → V → Prop
  | non : VRel .non .non
  | bl (b : Bool) : VRel (.bl b) (.bl b)
  | int (i : Int) : VRel (.int i) (.int i)
  | str (x : Str) (ok : PyData.strOk x = true) : VRel (.str x) (.str x)
  | tup {a : Addr} {vs : List V} {xs : List D} (h : H a = some (.tup vs)) (r : VRels xs vs) : VRel (.tup xs) (.ref a)
  | ktup {a : Addr} {ns : List Int} (h : KTup K a (ns.map V.int)) : VRel (.tup (ns.map D.int)) (.ref a)
  | fl {a : Addr} {vs : List V} {xs : List D} (h : H a = some (.lst vs)) (hi : a ∉ ι) (hb : ¬ B a) (r : VRels xs vs) : VRel (.fl xs) (.ref a)
  | fdK {a : Addr} {kvs : List (Key × V)} {ks vs : List D} (h : Rd H a (.dK kvs)) (hi : a ∉ ι) (hb : ¬ B a) (rk : VRels ks (kvs.map fun p => kV p.1)) (r : VRels vs (kvs.map (·.2))) : VRel (.fd false ks vs) (.ref a)
  | fdT {a : Addr} {kvs : List (List Key × V)} {ks : List (List D)} {vs : List D} (h : Rd H a (.dT kvs)) (hi : a ∉ ι) (hb : ¬ B a) (rk : VRelss ks (kvs.map fun p => p.1.map kV)) (r : VRels vs (kvs.map (·.2))) : VRel (.fd true (ks.map .tup) vs) (.ref a)
  | obj {a A dx : Addr} {fs : List (Str × V)} {C : String} {ns : List String} {vs : List D} (hC : cad C = some A) (h : H a = some (.ins A dx fs)) (hi : a ∉ ι) (hb : ¬ B a) (hn : fs.map (·.1) = ns.map Str.ofString) (hf : Cls K A ∧ ∀ n ∈ ns, NoAttr K A (Str.ofString n)) (r : VRels vs (fs.map (·.2))) : VRel (.obj C ns vs) (.ref a)
  | ref {i : Nat} {a : Addr} (h : ι[i]? = some a) : VRel (.ref i) (.ref a)
  | scr {a : Addr} {ns : List Int} (h : ScrR K H a (ns.map V.int)) : VRel (.scr ns) (.ref a)
  | exn0 {a A : Addr} {C : String} (hC : cad C = some A) (h : H a = some (ExV (.ref A) none a)) (hx : ExcC K A) : VRel (.exn C [] []) (.ref a)
  | exn1 {a A dx : Addr} {fs : List (Str × V)} {C : String} {ns : List String} {vs : List D} (hC : cad C = some A) (h : H a = some (ExV (.ref A) (some dx) a)) (g : H dx = some (.xd fs)) (hn : fs.map (·.1) = ns.map Str.ofString) (hx : ExcC K A ∧ ∀ n ∈ ns, NoAttr K A (Str.ofString n)) (r : VRels vs (fs.map (·.2))) : VRel (.exn C ns vs) (.ref a)
inductive VRels : List D → List V → Prop
  | nil : VRels [] []
  | cons {d : D} {v : V} {ds : List D} {vs : List V} (h : VRel d v) (t : VRels ds vs) : VRels (d :: ds) (v :: vs)
inductive VRelss : List (List D) → List (List V) → Prop
  | nil : VRelss [] []
  | cons {d : List D} {v : List V} {ds : List (List D)} {vs : List (List V)} (h : VRels d v) (t : VRelss ds vs) : VRelss (d :: ds) (v :: vs)
end

inductive CellR : Cell → Addr → Prop
  | lst {a : Addr} {xs : List D} {vs : List V} (h : H a = some (.lst vs)) (r : VRels K cad ι B H xs vs) : CellR (.lst xs) a
  | dicK {a : Addr} {kvs : List (Key × V)} {ks vs : List D} (h : H a = some (.dK kvs)) (rk : VRels K cad ι B H ks (kvs.map fun p => kV p.1)) (r : VRels K cad ι B H vs (kvs.map (·.2))) : CellR (.dic false ks vs) a
  | dicT {a : Addr} {kvs : List (List Key × V)} {ks : List (List D)} {vs : List D} (h : H a = some (.dT kvs)) (rk : VRelss K cad ι B H ks (kvs.map fun p => p.1.map kV)) (r : VRels K cad ι B H vs (kvs.map (·.2))) : CellR (.dic true (ks.map .tup) vs) a
  | ins {a A dx : Addr} {fs : List (Str × V)} {C : String} {ns : List String} {vs : List D} (hC : cad C = some A) (h : H a = some (.ins A dx fs)) (hn : fs.map (·.1) = ns.map Str.ofString) (hf : Cls K A ∧ ∀ n ∈ ns, NoAttr K A (Str.ofString n)) (r : VRels K cad ι B H vs (fs.map (·.2))) : CellR (.ins C ns vs) a

structure Sim (S : Store) : Prop where
  nd : ι.Nodup
  len : ι.length = S.length
  cell : ∀ (i : Nat) (c : Cell) (a : Addr), S[i]? = some c → ι[i]? = some a → CellR K cad ι B H c a
  occ : ∀ a, B a → H a ≠ none
  dis : ∀ a, a ∈ ι → ¬ B a
  nk : NK K H
end

structure Step (K : Frag) (ι : List Addr) (H : Hp) (ι' : List Addr) (H' : Hp) : Prop where
  pre : ∃ t, ι' = ι ++ t
  keep : ∀ a o, H a = some o → a ∉ ι → H' a = some o
  new : ∀ a, a ∈ ι' → a ∉ ι → H a = none ∧ True
  there : ∀ a, H a ≠ none → H' a ≠ none

section
variable {K : Frag} {cad : String → Option Addr} {ι ι' ι'' : List Addr} {B B' : Addr → Prop} {H H' H'' : Hp} {S S' : Store}

theorem Step.refl : Step K ι H ι H := ⟨⟨[], by simp⟩, fun _ _ h _ => h, fun _ h n => absurd h n, fun _ h => h⟩
theorem Step.mem (s : Step K ι H ι' H') {a : Addr} (h : a ∈ ι) : a ∈ ι' := by
  obtain ⟨t, rfl⟩ := s.pre
  exact List.mem_append_left _ h
theorem Step.trans (s : Step K ι H ι' H') (t : Step K ι' H' ι'' H'') : Step K ι H ι'' H'' where
  pre := by
    obtain ⟨u, rfl⟩ := s.pre
    obtain ⟨w, rfl⟩ := t.pre
    exact ⟨u ++ w, by rw [List.append_assoc]⟩
  keep := fun a o h n => by
    have h1 := s.keep a o h n
    refine t.keep a o h1 fun hm => ?_
    have := (s.new a hm n).1
    rw [this] at h; cases h
  new := fun a h n => by
    by_cases hm : a ∈ ι'
    · exact s.new a hm n
    · obtain ⟨h1, h2⟩ := t.new a h hm
      refine ⟨?_, h2⟩
      cases e : H a with
      | none => rfl
      | some o =>
        have := s.there a (by rw [e]; simp)
        exact absurd h1 this
  there := fun a h => t.there a (s.there a h)

theorem Sim.kind (sim : Sim K cad ι B H S) {a : Addr} (h : a ∈ ι) : ∃ o, H a = some o ∧ (∀ vs, o ≠ .tup vs) ∧ (∀ b u, o ≠ .frz b u) := by
  obtain ⟨i, hi⟩ := List.getElem?_of_mem h
  have hl : i < S.length := by
    have := (List.getElem?_eq_some_iff.mp hi).1
    rw [sim.len] at this; exact this
  obtain ⟨c, hc'⟩ : ∃ c, S[i]? = some c := ⟨_, List.getElem?_eq_getElem hl⟩
  cases sim.cell i c a hc' hi with
  | lst h r => exact ⟨_, h, fun _ e => (by cases e), fun _ _ e => (by cases e)⟩
  | dicK h rk r => exact ⟨_, h, fun _ e => (by cases e), fun _ _ e => (by cases e)⟩
  | dicT h rk r => exact ⟨_, h, fun _ e => (by cases e), fun _ _ e => (by cases e)⟩
  | ins hC h hn hf r => exact ⟨_, h, fun _ e => (by cases e), fun _ _ e => (by cases e)⟩

theorem Sim.kindX (sim : Sim K cad ι B H S) {a : Addr} (h : a ∈ ι) : ∃ o, H a = some o ∧ (∀ φ, o ≠ .ext φ) ∧ (∀ fs, o ≠ .xd fs) := by
  obtain ⟨i, hi⟩ := List.getElem?_of_mem h
  have hl : i < S.length := by
    have := (List.getElem?_eq_some_iff.mp hi).1
    rw [sim.len] at this; exact this
  obtain ⟨c, hc'⟩ : ∃ c, S[i]? = some c := ⟨_, List.getElem?_eq_getElem hl⟩
  cases sim.cell i c a hc' hi with
  | lst h r => exact ⟨_, h, fun _ e => (by cases e), fun _ e => (by cases e)⟩
  | dicK h rk r => exact ⟨_, h, fun _ e => (by cases e), fun _ e => (by cases e)⟩
  | dicT h rk r => exact ⟨_, h, fun _ e => (by cases e), fun _ e => (by cases e)⟩
  | ins hC h hn hf r => exact ⟨_, h, fun _ e => (by cases e), fun _ e => (by cases e)⟩
theorem Step.ext (s : Step K ι H ι' H') (sim : Sim K cad ι B H S) {a : Addr} {φ : Heap → Prop} (h : H a = some (.ext φ)) : H' a = some (.ext φ) := s.keep a _ h fun hm => by
  obtain ⟨u, hu, n1, _⟩ := sim.kindX hm
  rw [h] at hu; cases hu; exact n1 _ rfl
theorem Step.xd (s : Step K ι H ι' H') (sim : Sim K cad ι B H S) {a : Addr} {fs : List (Str × V)} (h : H a = some (.xd fs)) : H' a = some (.xd fs) := s.keep a _ h fun hm => by
  obtain ⟨u, hu, _, n1⟩ := sim.kindX hm
  rw [h] at hu; cases hu; exact n1 _ rfl
theorem Step.rd (s : Step K ι H ι' H') {a : Addr} {u : HO} (r : Rd H a u) (n : a ∉ ι) : Rd H' a u := by
  rcases r with r | ⟨o, r⟩
  · exact .inl (s.keep a _ r n)
  · exact .inr ⟨o, s.keep a _ r n⟩
theorem Rd.ne_none {a : Addr} {u : HO} (r : Rd H a u) : H a ≠ none := by
  rcases r with r | ⟨o, r⟩ <;> rw [r] <;> simp
theorem Step.notin (s : Step K ι H ι' H') {a : Addr} (n : a ∉ ι) (h : H a ≠ none ∨ False) : a ∉ ι' := fun hm => by
  obtain ⟨h1, h2⟩ := s.new a hm n
  rcases h with h | h
  · exact h h1
  · exact h
theorem sq_some {a : Addr} {xs : List V} (r : SqL K H a xs) : H a ≠ none ∨ K.lookup a ≠ none := by
  rcases r with r | ⟨o, _, _, hk, _⟩
  · exact .inl (Rd.ne_none r)
  · exact .inr (by rw [hk]; simp)

mutual
theorem VRel.mono (sim : Sim K cad ι B H S) (s : Step K ι H ι' H') (hB : ∀ a, B' a → B a) : ∀ {d : D} {v : V}, VRel K cad ι B H d v → VRel K cad ι' B' H' d v
  | _, _, .non => .non
  | _, _, .bl b => .bl b
  | _, _, .int i => .int i
  | _, _, .str x ok => .str x ok
  | _, _, .tup h r => .tup (s.keep _ _ h fun hm => by
      obtain ⟨u, hu, n1, _⟩ := sim.kind hm
      rw [h] at hu; cases hu; exact n1 _ rfl) (VRels.mono sim s hB r)
  | _, _, .ktup h => .ktup h
  | _, _, .fl h hi hb r => .fl (s.keep _ _ h hi) (s.notin hi (.inl (by rw [h]; simp))) (fun q => hb (hB _ q)) (VRels.mono sim s hB r)
  | _, _, .scr h => by
      rcases h with ⟨o, h⟩ | h
      · refine .scr (.inl ⟨o, s.keep _ _ h fun hm => ?_⟩)
        obtain ⟨u, hu, _, n2⟩ := sim.kind hm
        rw [h] at hu; cases hu; exact n2 _ _ rfl
      · exact .scr (.inr h)
  | _, _, .fdK h hi hb rk r => .fdK (s.rd h hi) (s.notin hi (.inl (Rd.ne_none h))) (fun q => hb (hB _ q)) (VRels.mono sim s hB rk) (VRels.mono sim s hB r)
  | _, _, .fdT h hi hb rk r => .fdT (s.rd h hi) (s.notin hi (.inl (Rd.ne_none h))) (fun q => hb (hB _ q)) (VRelss.mono sim s hB rk) (VRels.mono sim s hB r)
  | _, _, .obj hC h hi hb hn hf r => .obj hC (s.keep _ _ h hi) (s.notin hi (.inl (by rw [h]; simp))) (fun q => hb (hB _ q)) hn hf (VRels.mono sim s hB r)
  | _, _, .ref h => .ref (by
      obtain ⟨t, rfl⟩ := s.pre
      have := (List.getElem?_eq_some_iff.mp h).1
      rw [List.getElem?_append_left this]; exact h)
  | _, _, .exn0 hC h hx => .exn0 hC (s.ext sim h) hx
  | _, _, .exn1 hC h g hn hx r => .exn1 hC (s.ext sim h) (s.xd sim g) hn hx (VRels.mono sim s hB r)
theorem VRels.mono (sim : Sim K cad ι B H S) (s : Step K ι H ι' H') (hB : ∀ a, B' a → B a) : ∀ {ds : List D} {vs : List V}, VRels K cad ι B H ds vs → VRels K cad ι' B' H' ds vs
  | _, _, .nil => .nil
  | _, _, .cons h t => .cons (VRel.mono sim s hB h) (VRels.mono sim s hB t)
theorem VRelss.mono (sim : Sim K cad ι B H S) (s : Step K ι H ι' H') (hB : ∀ a, B' a → B a) : ∀ {ds : List (List D)} {vs : List (List V)}, VRelss K cad ι B H ds vs → VRelss K cad ι' B' H' ds vs
  | _, _, .nil => .nil
  | _, _, .cons h t => .cons (VRels.mono sim s hB h) (VRelss.mono sim s hB t)
end

theorem VRels.length {ds : List D} {vs : List V} : VRels K cad ι B H ds vs → ds.length = vs.length
  | .nil => rfl
  | .cons _ t => by simp [VRels.length t]
theorem VRels.get {ds : List D} {vs : List V} : VRels K cad ι B H ds vs → ∀ {i : Nat} {d : D}, ds[i]? = some d → ∃ v, vs[i]? = some v ∧ VRel K cad ι B H d v
  | .nil, _, _, e => by simp at e
  | .cons h t, 0, d, e => by simp at e; subst e; exact ⟨_, rfl, h⟩
  | .cons h t, i + 1, d, e => by
    obtain ⟨v, h1, h2⟩ := VRels.get t (i := i) (d := d) (by simpa using e)
    exact ⟨v, by simpa using h1, h2⟩
theorem VRels.append {ds es : List D} {vs ws : List V} : VRels K cad ι B H ds vs → VRels K cad ι B H es ws → VRels K cad ι B H (ds ++ es) (vs ++ ws)
  | .nil, s => s
  | .cons h t, s => .cons h (VRels.append t s)
theorem VRels.take {ds : List D} {vs : List V} : ∀ (n : Nat), VRels K cad ι B H ds vs → VRels K cad ι B H (ds.take n) (vs.take n)
  | 0, _ => .nil
  | n + 1, .nil => .nil
  | n + 1, .cons h t => .cons h (VRels.take n t)
theorem VRels.drop {ds : List D} {vs : List V} : ∀ (n : Nat), VRels K cad ι B H ds vs → VRels K cad ι B H (ds.drop n) (vs.drop n)
  | 0, h => h
  | n + 1, .nil => .nil
  | n + 1, .cons h t => VRels.drop n t
theorem VRels.set {d : D} {v : V} (h : VRel K cad ι B H d v) : ∀ {ds : List D} {vs : List V} (i : Nat), VRels K cad ι B H ds vs → VRels K cad ι B H (ds.set i d) (vs.set i v)
  | _, _, _, .nil => .nil
  | _, _, 0, .cons _ t => .cons h t
  | _, _, i + 1, .cons g t => .cons g (VRels.set h i t)
theorem VRels.rev {ds : List D} {vs : List V} (h : VRels K cad ι B H ds vs) : VRels K cad ι B H ds.reverse vs.reverse := by
  induction ds generalizing vs with
  | nil => cases h; exact .nil
  | cons d ds ih =>
    cases h with
    | cons h t => rw [List.reverse_cons, List.reverse_cons]; exact (ih t).append (.cons h .nil)

/-! ### new cells, new frozen lists, written cells -/
theorem Step.laid {p : Addr} {o : HO} (hp : H p = none) : Step K ι H ι (upd H p o) := by
  have q : ∀ a, H a ≠ none → a ≠ p := fun a h e => h (by rw [e]; exact hp)
  refine ⟨⟨[], by simp⟩, fun a u h _ => ?_, fun _ h n => absurd h n, fun a h => ?_⟩
  · rw [upd_ne (q a (by rw [h]; simp))]; exact h
  · rw [upd_ne (q a h)]; exact h
theorem Step.cell {p : Addr} {o : HO} (hp : H p = none) (nk : NK K (upd H p o)) : Step K ι H (ι ++ [p]) (upd H p o) := by
  have q : ∀ a, H a ≠ none → a ≠ p := fun a h e => h (by rw [e]; exact hp)
  refine ⟨⟨[p], rfl⟩, fun a u h _ => ?_, fun a h n => ?_, fun a h => ?_⟩
  · rw [upd_ne (q a (by rw [h]; simp))]; exact h
  · rcases List.mem_append.mp h with h | h
    · exact absurd h n
    · have e : a = p := by simpa using h
      subst e
      exact ⟨hp, trivial⟩
  · rw [upd_ne (q a h)]; exact h
theorem CellR.mono (sim : Sim K cad ι B H S) (s : Step K ι H ι' H') {c : Cell} {a : Addr} (h : CellR K cad ι B H c a) (hH : H' a = H a) : CellR K cad ι' B H' c a := by
  have id' : ∀ a, B a → B a := fun _ q => q
  cases h with
  | lst h r => exact .lst (hH.trans h) (r.mono sim s id')
  | dicK h rk r => exact .dicK (hH.trans h) (rk.mono sim s id') (r.mono sim s id')
  | dicT h rk r => exact .dicT (hH.trans h) (rk.mono sim s id') (r.mono sim s id')
  | ins hC h hn hf r => exact .ins hC (hH.trans h) hn hf (r.mono sim s id')
theorem Sim.laid {p : Addr} {o : HO} (sim : Sim K cad ι B H S) (hp : H p = none) (nk : NK K (upd H p o)) : Sim K cad ι B (upd H p o) S := by
  have s : Step K ι H ι (upd H p o) := .laid hp
  have q : ∀ a, H a ≠ none → a ≠ p := fun a h e => h (by rw [e]; exact hp)
  refine ⟨sim.nd, sim.len, fun i c a h1 h2 => ?_, fun a h => s.there a (sim.occ a h), sim.dis, nk⟩
  obtain ⟨u, hu, _⟩ := sim.kind (List.mem_of_getElem? h2)
  exact (sim.cell i c a h1 h2).mono sim s (upd_ne (q a (by rw [hu]; simp)))
theorem Sim.push {p : Addr} {o : HO} {c : Cell} (sim : Sim K cad ι B H S) (hp : H p = none) (nk : NK K (upd H p o)) (hc : CellR K cad (ι ++ [p]) B (upd H p o) c p) : Sim K cad (ι ++ [p]) B (upd H p o) (S ++ [c]) := by
  have s : Step K ι H (ι ++ [p]) (upd H p o) := .cell hp nk
  have q : ∀ a, H a ≠ none → a ≠ p := fun a h e => h (by rw [e]; exact hp)
  have inι : ∀ a, a ∈ ι → a ≠ p := fun a h => by
    obtain ⟨u, hu, _⟩ := sim.kind h
    exact q a (by rw [hu]; simp)
  refine ⟨?_, by simp [sim.len], fun i d a h1 h2 => ?_, fun a h => s.there a (sim.occ a h), fun a h hb => ?_, nk⟩
  · rw [List.nodup_append]
    refine ⟨sim.nd, by simp, fun a ha b hb => ?_⟩
    have e : b = p := by simpa using hb
    subst e
    exact inι a ha
  · by_cases hi : i < S.length
    · rw [List.getElem?_append_left hi] at h1
      rw [List.getElem?_append_left (by rw [sim.len]; exact hi)] at h2
      exact (sim.cell i d a h1 h2).mono sim s (upd_ne (inι a (List.mem_of_getElem? h2)))
    · rw [List.getElem?_append_right (by omega)] at h1
      rw [List.getElem?_append_right (by rw [sim.len]; omega)] at h2
      have e : i - S.length = 0 := by
        have := (List.getElem?_eq_some_iff.mp h1).1
        simp at this; omega
      rw [e] at h1
      rw [sim.len, e] at h2
      simp at h1 h2
      subst h1; subst h2
      exact hc
  · rcases List.mem_append.mp h with h | h
    · exact sim.dis a h hb
    · have e : a = p := by simpa using h
      subst e
      exact sim.occ a hb hp
theorem Sim.write {p : Addr} {o : HO} {c : Cell} {i : Nat} (sim : Sim K cad ι B H S) (hi : ι[i]? = some p) (ho : ∀ vs, o ≠ .tup vs) (hc : CellR K cad ι B (upd H p o) c p) (nk : NK K (upd H p o)) :
    Sim K cad ι B (upd H p o) (S.set i c) ∧ Step K ι H ι (upd H p o) := by
  have hm : p ∈ ι := List.mem_of_getElem? hi
  have s : Step K ι H ι (upd H p o) := by
    refine ⟨⟨[], by simp⟩, fun a u h n => ?_, fun _ h n => absurd h n, fun a h => ?_⟩
    · rw [upd_ne (fun e => n (by rw [e]; exact hm))]; exact h
    · by_cases e : a = p
      · subst e; rw [upd_same]; simp
      · rw [upd_ne e]; exact h
  refine ⟨⟨sim.nd, by simp [sim.len], fun j d a h1 h2 => ?_, fun a h => s.there a (sim.occ a h), sim.dis, nk⟩, s⟩
  by_cases e : j = i
  · subst e
    rw [hi] at h2; cases h2
    have hl : j < S.length := by rw [← sim.len]; exact (List.getElem?_eq_some_iff.mp hi).1
    rw [List.getElem?_set_self hl] at h1
    cases h1
    exact hc
  · rw [List.getElem?_set_ne (Ne.symm e)] at h1
    refine (sim.cell j d a h1 h2).mono sim s (upd_ne fun q => e ?_)
    subst q
    obtain ⟨l1, e1⟩ := List.getElem?_eq_some_iff.mp hi
    obtain ⟨l2, e2⟩ := List.getElem?_eq_some_iff.mp h2
    exact (List.getElem_inj sim.nd).mp (e2.trans e1.symm)

theorem Sim.B_mono (sim : Sim K cad ι B H S) {B' : Addr → Prop} (h : ∀ a, B' a → B a) : Sim K cad ι B' H S :=
  ⟨sim.nd, sim.len, fun i c a h1 h2 => by
    cases sim.cell i c a h1 h2 with
    | lst g r => exact .lst g (r.mono sim .refl h)
    | dicK g rk r => exact .dicK g (rk.mono sim .refl h) (r.mono sim .refl h)
    | dicT g rk r => exact .dicT g (rk.mono sim .refl h) (r.mono sim .refl h)
    | ins hC g hn hf r => exact .ins hC g hn hf (r.mono sim .refl h), fun a q => sim.occ a (h a q), fun a q z => sim.dis a q (h a z), sim.nk⟩
end
end E1

set_option maxHeartbeats 1000000
/-! E1: expressions are as the evaluator says. -/
namespace E1
open PySem PySem.Spec PyProof.Rows L2

/-! ### what is wanted of an answer -/
def Post {α : Type} (r : R α) (ok : α → Store → Prop) (exn : Exn → Store → Prop) : Prop :=
  match r with
  | .ok a S => ok a S
  | .exc x S => exn x S
  | .no => False
theorem Post.bind {α β : Type} {r : R α} {f : α → Store → R β} {ok : β → Store → Prop} {exn : Exn → Store → Prop} (h : Post (r.bind f) ok exn) : Post r (fun a S => Post (f a S) ok exn) exn := by
  cases r <;> exact h
theorem Post.imp {α : Type} {r : R α} {ok ok' : α → Store → Prop} {exn exn' : Exn → Store → Prop} (h : Post r ok exn) (h1 : ∀ a S, ok a S → ok' a S) (h2 : ∀ x S, exn x S → exn' x S) : Post r ok' exn' := by
  cases r with
  | ok a S => exact h1 a S h
  | exc x S => exact h2 x S h
  | no => exact h
def NoExc {α : Type} (r : R α) : Prop := ∀ x S, r ≠ .exc x S
theorem Post.ok {α : Type} {r : R α} {ok : α → Store → Prop} {exn : Exn → Store → Prop} (h : Post r ok exn) (n : NoExc r) : ∃ a S, r = .ok a S ∧ ok a S := by
  cases r with
  | ok a S => exact ⟨a, S, rfl, h⟩
  | exc x S => exact absurd rfl (n x S)
  | no => exact h.elim

section
variable (K : Frag) (cad : String → Option Addr)
def ExnR (ι : List Addr) (B : Addr → Prop) (H : Hp) (x : Exn) (cls : Value) (d : Option Addr) : Prop :=
  ∃ A, cad x.cls = some A ∧ cls = .ref A ∧ (ExcC K A ∧ ∀ n ∈ x.ns, NoAttr K A (Str.ofString n)) ∧ ((x.ns = [] ∧ x.vs = [] ∧ d = none) ∨
    ∃ dx fs, d = some dx ∧ H dx = some (.xd fs) ∧ fs.map (·.1) = x.ns.map Str.ofString ∧ VRels K cad ι B H x.vs (fs.map (·.2)))
def OkQ (ι : List Addr) (B : Addr → Prop) (H : Hp) (Q : VK) (d : D) (S' : Store) : Prop :=
  ∀ ι' v H', Step K ι H ι' H' → Sim K cad ι' B H' S' → VRel K cad ι' B H' d v → Q v H'
def ExQ (ι : List Addr) (B : Addr → Prop) (H : Hp) (W : XK) (x : Exn) (S' : Store) : Prop :=
  ∀ ι' cls dd H', Step K ι H ι' H' → Sim K cad ι' B H' S' → ExnR K cad ι' B H' x cls dd → W cls dd H'
def Slo (ι : List Addr) (B : Addr → Prop) (H : Hp) (σw : Slots) (σ : L2.St) : Prop :=
  σw.length = σ.length ∧ ∀ (i : Nat) (d : D), σw[i]? = some (some d) → ∃ v, σ[i]? = some (some v) ∧ VRel K cad ι B H d v
end

section
variable {K : Frag} {cad : String → Option Addr} {ι ι' : List Addr} {B : Addr → Prop} {H H' : Hp} {S S' : Store} {Q : VK} {W : XK} {σw : Slots} {σ : L2.St}
theorem OkQ.after {d : D} (h : OkQ K cad ι B H Q d S') (s : Step K ι H ι' H') : OkQ K cad ι' B H' Q d S' := fun ι2 v H2 s2 sim r => h ι2 v H2 (s.trans s2) sim r
theorem ExQ.after {x : Exn} (h : ExQ K cad ι B H W x S') (s : Step K ι H ι' H') : ExQ K cad ι' B H' W x S' := fun ι2 c d H2 s2 sim r => h ι2 c d H2 (s.trans s2) sim r
theorem Slo.mono (h : Slo K cad ι B H σw σ) (sim : Sim K cad ι B H S) (s : Step K ι H ι' H') : Slo K cad ι' B H' σw σ := ⟨h.1, fun i d e => by
  obtain ⟨v, e1, r⟩ := h.2 i d e
  exact ⟨v, e1, r.mono sim s fun _ q => q⟩⟩
end

/-! ### readings by meaning -/
def tSem (X : Cx) (e : Expr) : TE := fun σ H Q => ∀ (pins : List (Addr × Obj)) (s : Shared), Inv X pins σ H s → wpAny (model X.prog X.w) X.A (eval e X.env) (EP X pins σ Q) X.xe s
theorem pe_sem {X : Cx} {e : Expr} : PE X e (tSem X e) := ⟨fun pins s _ _ _ I h => h pins s I⟩
theorem EP.nk {X : Cx} {pins : List (Addr × Obj)} {σ : L2.St} {Q : VK} {u : Value} {s' : Shared} (h : EP X pins σ (fun v H' => NK X.K H' → Q v H') u s') : EP X pins σ Q u s' := by
  obtain ⟨v, H', I, r, q⟩ := h
  exact ⟨v, H', I, r, q (Inv_NK I)⟩
theorem tSem.of {X : Cx} {e : Expr} {t : TE} {σ : L2.St} {H : Hp} {Q : VK} (h : PE X e t) (q : t σ H (fun v H' => NK X.K H' → Q v H')) : tSem X e σ H Q := fun pins s I =>
  thn (h.run pins s σ H _ I q) fun _ _ q => EP.nk q
def oSem (X : Cx) (f : Value → Value → Sem Value) : R2 := fun x y H Q => ∀ (pins : List (Addr × Obj)) (s : Shared) (σ : L2.St) (v u : Value), Inv X pins σ H s → RelV x v → RelV y u → wpAny (model X.prog X.w) X.A (f v u) (EP X pins σ Q) X.xe s
theorem op_sem {X : Cx} {f : Value → Value → Sem Value} : OpR X f (oSem X f) := fun pins s σ _ _ _ v u _ I rx ry h => h pins s σ v u I rx ry
theorem oSem.of {X : Cx} {f : Value → Value → Sem Value} {r : R2} {x y : V} {H : Hp} {Q : VK} (h : OpR X f r) (q : r x y H (fun v H' => NK X.K H' → Q v H')) : oSem X f x y H Q := fun pins s σ v u I rx ry =>
  thn (h pins s σ H x y v u _ I rx ry q) fun _ _ q => EP.nk q
def cSem (X : Cx) (f : Value) : List V → Hp → VK → Prop := fun xs H Q => ∀ (pins : List (Addr × Obj)) (s : Shared) (σ : L2.St) (us : List Value), Inv X pins σ H s → Vals xs us → wpAny (model X.prog X.w) X.A (PySem.call f us) (EP X pins σ Q) X.xe s
theorem call_sem {X : Cx} {f : Value} : CallR X f (cSem X f) := fun pins s σ _ _ us _ I r h => h pins s σ us I r
theorem cSem.of {X : Cx} {f : Value} {r : List V → Hp → VK → Prop} {xs : List V} {H : Hp} {Q : VK} (h : CallR X f r) (q : r xs H (fun v H' => NK X.K H' → Q v H')) : cSem X f xs H Q := fun pins s σ us I rx =>
  thn (h pins s σ H xs us _ I rx q) fun _ _ q => EP.nk q

def SndE (X : Cx) (cad : String → Option Addr) (W : WX) (e : Expr) (m : Slots → Store → R D) : Prop :=
  ∀ (B : Addr → Prop) (ι : List Addr) (σw : Slots) (S : Store) (σ : L2.St) (H : Hp) (Q : VK), Sim X.K cad ι B H S → Slo X.K cad ι B H σw σ →
    Post (m σw S) (OkQ X.K cad ι B H Q) (ExQ X.K cad ι B H fun c d H' => W c d σ H') → tSem X e σ H Q

section
variable {X : Cx} {cad : String → Option Addr} {W : WX} {e a b c : Expr} {m ma mb mc : Slots → Store → R D} {pos : Pos}
variable {ι : List Addr} {B : Addr → Prop} {H : Hp} {S : Store} {σw : Slots} {σ : L2.St} {Q : VK}

theorem snd2 {r : R2} {f : D → D → Store → R D} (ha : SndE X cad W a ma) (hb : SndE X cad W b mb) (hn : ∀ x y S, NoExc (f x y S))
    (hf : ∀ (ι : List Addr) (H : Hp) (S : Store) (x y : D) (v u : V) (d : D) (S' : Store), Sim X.K cad ι B H S → VRel X.K cad ι B H x v → VRel X.K cad ι B H y u → f x y S = .ok d S' → OkQ X.K cad ι B H Q d S' → r v u H Q)
    (sim : Sim X.K cad ι B H S) (sl : Slo X.K cad ι B H σw σ)
    (h : Post ((ma σw S).bind fun x S => (mb σw S).bind fun y S => f x y S) (OkQ X.K cad ι B H Q) (ExQ X.K cad ι B H fun c d H' => W c d σ H')) :
    tOp r (tSem X a) (tSem X b) σ H Q := by
  refine ha B ι σw S σ H _ sim sl ((h.bind).imp (fun x S1 h1 => ?_) fun x S1 h1 => h1)
  intro ι1 v H1 s1 sim1 r1
  have sl1 := sl.mono sim s1
  refine hb B ι1 σw S1 σ H1 _ sim1 sl1 ((h1.bind).imp (fun y S2 h2 => ?_) fun x S2 h2 => h2.after s1)
  intro ι2 u H2 s2 sim2 r2
  obtain ⟨d, S3, e3, q3⟩ := h2.ok (hn x y S2)
  exact hf ι2 H2 S2 x y v u d S3 sim2 (r1.mono sim1 s2 fun _ q => q) r2 e3 (q3.after (s1.trans s2))
theorem snd1 {f : D → Store → R D} {R1 : V → Hp → Prop} (ha : SndE X cad W a ma) (hn : ∀ x S, NoExc (f x S))
    (hf : ∀ (ι : List Addr) (H : Hp) (S : Store) (x : D) (v : V) (d : D) (S' : Store), Sim X.K cad ι B H S → VRel X.K cad ι B H x v → f x S = .ok d S' → OkQ X.K cad ι B H Q d S' → R1 v H)
    (sim : Sim X.K cad ι B H S) (sl : Slo X.K cad ι B H σw σ)
    (h : Post ((ma σw S).bind fun x S => f x S) (OkQ X.K cad ι B H Q) (ExQ X.K cad ι B H fun c d H' => W c d σ H')) :
    tSem X a σ H R1 := by
  refine ha B ι σw S σ H _ sim sl ((h.bind).imp (fun x S1 h1 => ?_) fun x S1 h1 => h1)
  intro ι1 v H1 s1 sim1 r1
  obtain ⟨d, S3, e3, q3⟩ := h1.ok (hn x S1)
  exact hf ι1 H1 S1 x v d S3 sim1 r1 e3 (q3.after s1)

/-! ### names, literals -/
theorem snd_var {i : Nat} {x : Str} (hN : X.N[i]? = some x) (hv : Vis X.env.scope x) (hd : (x == ("__debug__" : Str)) = false) (hcd : (x == ("__classdict__" : Str)) = false) (C : Env) : SndE X cad W (.Name x pos) (ev C (.var i)) := by
  intro B ι σw S σ H Q sim sl h
  refine tSem.of (pe_var (i := i) hN hv hd hcd) ?_
  simp only [ev] at h
  cases e : σw[i]? with
  | none => rw [e] at h; exact h.elim
  | some o =>
    cases o with
    | none => rw [e] at h; exact h.elim
    | some d =>
      rw [e] at h
      obtain ⟨v, ev, r⟩ := sl.2 i d e
      exact ⟨v, ev, fun _ => h ι v H .refl sim r⟩
theorem snd_int {i : Int} {j : Nat} (C : Env) : SndE X cad W (.Constant (.int i) j pos) (ev C (.lit (.int i))) := by
  intro B ι σw S σ H Q sim sl h
  simp only [ev, flat, if_true] at h
  exact tSem.of pe_int fun _ => h ι _ H .refl sim (.int i)
theorem snd_str {x : Str} {j : Nat} (ok : PyData.strOk x = true) (C : Env) : SndE X cad W (.Constant (.str x) j pos) (ev C (.lit (.str x))) := by
  intro B ι σw S σ H Q sim sl h
  simp only [ev, flat, if_true] at h
  exact tSem.of pe_str fun _ => h ι _ H .refl sim (.str x ok)
theorem snd_bl {x : Bool} {j : Nat} (C : Env) : SndE X cad W (.Constant (.bool x) j pos) (ev C (.lit (.bl x))) := by
  intro B ι σw S σ H Q sim sl h
  simp only [ev, flat, if_true] at h
  exact tSem.of pe_bl fun _ => h ι _ H .refl sim (.bl x)
theorem snd_non {j : Nat} (C : Env) : SndE X cad W (.Constant .none j pos) (ev C (.lit .non)) := by
  intro B ι σw S σ H Q sim sl h
  simp only [ev, flat, if_true] at h
  exact tSem.of pe_non fun _ => h ι _ H .refl sim .non

/-! ### lists in the heap -/
theorem VRel.intOf {i : Int} {v : V} (r : VRel X.K cad ι B H (.int i) v) : v = .int i := by cases r; rfl
theorem VRel.blOf {i : Bool} {v : V} (r : VRel X.K cad ι B H (.bl i) v) : v = .bl i := by cases r; rfl
theorem VRel.strOf {i : Str} {v : V} (r : VRel X.K cad ι B H (.str i) v) : v = .str i := by cases r; rfl
theorem VRel.nonOf {v : V} (r : VRel X.K cad ι B H .non v) : v = .non := by cases r; rfl
theorem rb_fl (sim : Sim X.K cad ι B H S) {d : D} {v : V} {xs : List D} (r : VRel X.K cad ι B H d v) (h : rb S d = .fl xs) : ∃ a vs, v = .ref a ∧ H a = some (.lst vs) ∧ VRels X.K cad ι B H xs vs := by
  cases r with
  | @fl a vs ys hh hi hb r => cases h; exact ⟨a, vs, rfl, hh, r⟩
  | @ref i a hi =>
    simp only [rb] at h
    cases e : S[i]? with
    | none => rw [e] at h; cases h
    | some c =>
      have q := sim.cell i c a e hi
      rw [e] at h
      cases q with
      | lst g r => cases h; exact ⟨a, _, rfl, g, r⟩
      | dicK _ _ _ => cases h
      | dicT _ _ _ => cases h
      | ins _ _ _ _ _ => cases h
  | _ => cases h
theorem vints : ∀ ns : List Int, VRels X.K cad ι B H (ns.map D.int) (ns.map V.int)
  | [] => .nil
  | n :: ns => .cons (.int n) (vints ns)
theorem VRel.tupOf {xs : List D} {v : V} (r : VRel X.K cad ι B H (.tup xs) v) : ∃ a vs, v = .ref a ∧ SqT X.K H a vs ∧ VRels X.K cad ι B H xs vs := by
  cases r with
  | tup h r => exact ⟨_, _, rfl, .of h, r⟩
  | ktup h => exact ⟨_, _, rfl, .inr h, vints _⟩
theorem rb_tup (sim : Sim X.K cad ι B H S) {d : D} {v : V} {xs : List D} (r : VRel X.K cad ι B H d v) (h : rb S d = .tup xs) : ∃ a vs, v = .ref a ∧ SqT X.K H a vs ∧ VRels X.K cad ι B H xs vs := by
  by_cases hd : d = .tup xs
  · subst hd; exact r.tupOf
  · exfalso
    cases d with
    | tup ys => exact hd h
    | ref i =>
      simp only [rb] at h
      cases e : S[i]? with
      | none => rw [e] at h; cases h
      | some c => rw [e] at h; cases c <;> cases h
    | _ => cases h
theorem rb_obj (sim : Sim X.K cad ι B H S) {d : D} {v : V} {C : String} {ns : List String} {xs : List D} (r : VRel X.K cad ι B H d v) (h : rb S d = .obj C ns xs) :
    ∃ a A dx fs, v = .ref a ∧ cad C = some A ∧ H a = some (.ins A dx fs) ∧ fs.map (·.1) = ns.map Str.ofString ∧ (Cls X.K A ∧ ∀ n ∈ ns, NoAttr X.K A (Str.ofString n)) ∧ VRels X.K cad ι B H xs (fs.map (·.2)) := by
  cases r with
  | @obj a A dx fs C' ns' vs hC hh hi hb hn hf r => cases h; exact ⟨a, A, dx, fs, rfl, hC, hh, hn, hf, r⟩
  | @ref i a hi =>
    simp only [rb] at h
    cases e : S[i]? with
    | none => rw [e] at h; cases h
    | some c =>
      have q := sim.cell i c a e hi
      rw [e] at h
      cases q with
      | lst g r => cases h
      | dicK _ _ _ => cases h
      | dicT _ _ _ => cases h
      | ins hC g hn hf r => cases h; exact ⟨a, _, _, _, rfl, hC, g, hn, hf, r⟩
  | _ => cases h
theorem rb_scal {d : D} {v : V} (r : VRel X.K cad ι B H d v) : (∀ i, rb S d = .int i → v = .int i) ∧ (∀ i, rb S d = .bl i → v = .bl i) ∧ (∀ i, rb S d = .str i → v = .str i) ∧ (rb S d = .non → v = .non) := by
  cases r with
  | @ref i a hi =>
    have no : ∀ y : D, rb S (.ref i) = y → (∀ k, y ≠ .int k) ∧ (∀ k, y ≠ .bl k) ∧ (∀ k, y ≠ .str k) ∧ y ≠ .non := fun y e => by
      subst e
      simp only [rb]
      cases e : S[i]? with
      | none => simp
      | some c => cases c <;> simp
    obtain ⟨n1, n2, n3, n4⟩ := no _ rfl
    exact ⟨fun i e => absurd e (n1 i), fun i e => absurd e (n2 i), fun i e => absurd e (n3 i), fun e => absurd e n4⟩
  | _ => exact ⟨fun i e => (by cases e <;> rfl), fun i e => (by cases e <;> rfl), fun i e => (by cases e <;> rfl), fun e => (by cases e <;> rfl)⟩
theorem listM_rb {d : D} {xs : List D} (h : listM S d = some xs) : rb S d = .fl xs := by
  unfold listM at h
  split at h
  · rename_i e; cases h; exact e
  · cases h
theorem list_ofM (sim : Sim X.K cad ι B H S) {d : D} {v : V} {xs : List D} (r : VRel X.K cad ι B H d v) (h : listM S d = some xs) : ∃ a vs, v = .ref a ∧ H a = some (.lst vs) ∧ VRels X.K cad ι B H xs vs := rb_fl sim r (listM_rb h)
theorem rbl_fl (sim : Sim X.K cad ι B H S) {d : D} {v : V} {xs : List D} (r : VRel X.K cad ι B H d v) (h : rbl S d = .fl xs) : ∃ a vs, v = .ref a ∧ SqL X.K H a vs ∧ VRels X.K cad ι B H xs vs := by
  unfold rbl at h
  split at h
  · cases h
    cases r with
    | scr h => exact ⟨_, _, rfl, h.sq, vints _⟩
  · obtain ⟨a, vs, h1, h2, h3⟩ := rb_fl sim r h
    exact ⟨a, vs, h1, .of h2, h3⟩
theorem rbl_tup (sim : Sim X.K cad ι B H S) {d : D} {v : V} {xs : List D} (r : VRel X.K cad ι B H d v) (h : rbl S d = .tup xs) : ∃ a vs, v = .ref a ∧ SqT X.K H a vs ∧ VRels X.K cad ι B H xs vs := by
  unfold rbl at h
  split at h
  · cases h
  · exact rb_tup sim r h
theorem list_of (sim : Sim X.K cad ι B H S) {d : D} {v : V} {xs : List D} (r : VRel X.K cad ι B H d v) (h : listOf S d = some xs) : ∃ a vs, v = .ref a ∧ SqL X.K H a vs ∧ VRels X.K cad ι B H xs vs := by
  unfold listOf at h
  split at h
  · rename_i e
    cases h
    exact rbl_fl sim r e
  · cases h
theorem seq_of (sim : Sim X.K cad ι B H S) {d : D} {v : V} {xs : List D} (r : VRel X.K cad ι B H d v) (h : seqOf S d = some xs) : ∃ a vs, v = .ref a ∧ (SqL X.K H a vs ∨ SqT X.K H a vs) ∧ VRels X.K cad ι B H xs vs := by
  unfold seqOf at h
  split at h
  · rename_i e
    cases h
    obtain ⟨a, vs, h1, h2, h3⟩ := rbl_fl sim r e
    exact ⟨a, vs, h1, .inl h2, h3⟩
  · rename_i e
    cases h
    obtain ⟨a, vs, h1, h2, h3⟩ := rbl_tup sim r e
    exact ⟨a, vs, h1, .inr h2, h3⟩
  · cases h

theorem alloc_ok {box : Bool} {xs : List D} {vs : List V} {d : D} {S' : Store} (sim : Sim X.K cad ι B H S) (r : VRels X.K cad ι B H xs vs) (h : alloc box xs S = .ok d S') (q : OkQ X.K cad ι B H Q d S') :
    vs.length ≤ sizeLine ∧ ∀ p, H p = none → NK X.K (upd H p (.lst vs)) → Q (.ref p) (upd H p (.lst vs)) := by
  unfold alloc at h
  by_cases hl : xs.length ≤ LINE
  · rw [if_pos hl] at h
    refine ⟨by rw [← r.length, sizeLine_eq]; exact hl, fun p hp nk => ?_⟩
    cases box with
    | true =>
      cases h
      have s : Step X.K ι H (ι ++ [p]) (upd H p (.lst vs)) := .cell hp nk
      refine q (ι ++ [p]) _ _ s (sim.push hp nk (.lst upd_same (r.mono sim s fun _ q => q))) (.ref ?_)
      rw [List.getElem?_append_right (by rw [sim.len]; omega), sim.len]; simp
    | false =>
      cases h
      have s : Step X.K ι H ι (upd H p (.lst vs)) := .laid hp
      refine q ι _ _ s (sim.laid hp nk) (.fl upd_same (fun hm => ?_) (fun hb => sim.occ p hb hp) (r.mono sim s fun _ q => q))
      obtain ⟨o, ho, _⟩ := sim.kind hm
      rw [hp] at ho; cases ho
  · rw [if_neg hl] at h; cases h
theorem alloc_noexc {box : Bool} {xs : List D} : NoExc (alloc box xs S) := fun x S' => by
  unfold alloc
  split
  · split <;> simp
  · simp
theorem tup_ok {xs : List D} {vs : List V} (sim : Sim X.K cad ι B H S) (r : VRels X.K cad ι B H xs vs) (q : OkQ X.K cad ι B H Q (.tup xs) S) : ∀ p, H p = none → NK X.K (upd H p (.tup vs)) → Q (.ref p) (upd H p (.tup vs)) := fun p hp nk => by
  have s : Step X.K ι H ι (upd H p (.tup vs)) := .laid hp
  exact q ι _ _ s (sim.laid hp nk) (.tup upd_same (r.mono sim s fun _ q => q))
end
end E1

set_option maxHeartbeats 1000000
/-! E1: operators. -/
namespace E1
open PySem PySem.Spec PyProof.Rows L2

theorem LINE_eq : LINE = sizeLine := rfl
def pyOp : Bop → Operator
  | .add => .Add | .addB => .Add | .sub => .Sub | .mul => .Mult | .mulB => .Mult | .fdiv => .FloorDiv | .mod => .Mod | .pow => .Pow

section
variable {X : Cx} {cad : String → Option Addr} {ι : List Addr} {B : Addr → Prop} {H : Hp} {S S' : Store} {Q : VK}

theorem strOk_append {x y : Str} (h : PyData.strOk x = true) (g : PyData.strOk y = true) : PyData.strOk (x ++ y) = true := by
  unfold PyData.strOk at *
  show ((x.cps ++ y.cps).all _) = true
  rw [Array.all_append, h, g]; rfl

theorem VRel.strOk' {x : Str} {v : V} (r : VRel X.K cad ι B H (.str x) v) : PyData.strOk x = true := by cases r; assumption
theorem VRels.flatten {ds : List D} {vs : List V} (h : VRels X.K cad ι B H ds vs) : ∀ n, VRels X.K cad ι B H (List.replicate n ds).flatten (List.replicate n vs).flatten
  | 0 => .nil
  | n + 1 => by rw [List.replicate_succ, List.replicate_succ, List.flatten_cons, List.flatten_cons]; exact h.append (VRels.flatten h n)

theorem bop_ok {op : Bop} {x y d : D} {v u : V} (sim : Sim X.K cad ι B H S) (rx : VRel X.K cad ι B H x v) (ry : VRel X.K cad ι B H y u) (h : bop op x y S = .ok d S') (q : OkQ X.K cad ι B H Q d S') :
    oSem X (binaryOp (pyOp op)) v u H Q := by
  have cat : ∀ (box : Bool) xs ys, listM S x = some xs → listM S y = some ys → xs.length + ys.length ≤ LINE → alloc box (xs ++ ys) S = .ok d S' → oSem X (binaryOp .Add) v u H Q := by
    intro box xs ys h1 h2 h3 h4
    obtain ⟨a, vs, rfl, s1, r1⟩ := list_ofM sim rx h1
    obtain ⟨b, us, rfl, s2, r2⟩ := list_ofM sim ry h2
    obtain ⟨hz, hq⟩ := alloc_ok sim (r1.append r2) h4 q
    exact oSem.of op_cat ⟨a, b, vs, us, rfl, rfl, s1, s2, by rw [← r1.length, ← r2.length]; exact h3, fun p hp nk => hq p hp nk⟩
  have rep : ∀ (box : Bool) xs (k : Int), y = .int k → listM S x = some xs → (k.toNat * xs.length ≤ LINE ∧ -(2 ^ 63) ≤ k ∧ k < 2 ^ 63) → alloc box (List.replicate k.toNat xs).flatten S = .ok d S' → oSem X (binaryOp .Mult) v u H Q := by
    intro box xs k hy h1 ⟨h3, h4, h5⟩ h6
    subst hy
    obtain ⟨a, vs, rfl, s1, r1⟩ := list_ofM sim rx h1
    cases ry.intOf
    obtain ⟨hz, hq⟩ := alloc_ok sim (r1.flatten k.toNat) h6 q
    exact oSem.of op_rep ⟨a, k, vs, rfl, rfl, s1, h4, h5, by rw [← r1.length, Nat.mul_comm]; exact h3, fun p hp nk => hq p hp nk⟩
  unfold bop at h
  split at h
  · cases rx.intOf; cases ry.intOf; cases h
    exact oSem.of op_add ⟨_, _, rfl, rfl, fun _ => q ι _ H .refl sim (.int _)⟩
  · cases rx.intOf; cases ry.intOf; cases h
    exact oSem.of op_sub ⟨_, _, rfl, rfl, fun _ => q ι _ H .refl sim (.int _)⟩
  · cases rx.intOf; cases ry.intOf
    split at h
    · rename_i hm; cases h
      exact oSem.of op_mulW ⟨_, _, rfl, rfl, hm, fun _ => q ι _ H .refl sim (.int _)⟩
    · cases h
  · cases rx.intOf; cases ry.intOf
    split at h
    · rename_i hm; cases h
      exact oSem.of op_fdivW ⟨_, _, rfl, rfl, hm, fun _ => q ι _ H .refl sim (.int _)⟩
    · cases h
  · cases rx.intOf; cases ry.intOf
    split at h
    · rename_i hm; cases h
      exact oSem.of op_mod ⟨_, _, rfl, rfl, hm, fun _ => q ι _ H .refl sim (.int _)⟩
    · cases h
  · cases rx.intOf; cases ry.intOf
    split at h
    · rename_i hm; cases h
      exact oSem.of op_pow ⟨_, _, rfl, rfl, ⟨hm.1, by have := hm.2.1; omega, hm.2.2⟩, fun _ => q ι _ H .refl sim (.int _)⟩
    · cases h
  · have o1 := rx.strOk'
    have o2 := ry.strOk'
    cases rx.strOf; cases ry.strOf
    split at h
    · rename_i hm; cases h
      exact oSem.of op_add_str ⟨_, _, rfl, rfl, hm, fun _ => q ι _ H .refl sim (.str _ (strOk_append o1 o2))⟩
    · cases h
  · obtain ⟨a, vs, rfl, s1, r1⟩ := rx.tupOf
    obtain ⟨b, us, rfl, s2, r2⟩ := ry.tupOf
    split at h
    · rename_i hm; cases h
      have e1 := r1.length
      have e2 := r2.length
      have n1 : vs ≠ [] := fun e => by subst e; simp at e1
      have n2 : us ≠ [] := fun e => by subst e; simp at e2
      refine oSem.of op_catT ⟨a, b, vs, us, rfl, rfl, s1, s2, n1, by rw [← e1, ← e2]; exact hm, fun e => absurd e n2, fun _ p hp nk => ?_⟩
      exact tup_ok sim (r1.append r2) q p hp nk
    · cases h
  · split at h
    · rename_i h1 h2
      split at h
      · rename_i h3
        exact cat false _ _ h1 h2 h3 h
      · cases h
    · cases h
  · split at h
    · rename_i h1 h2
      split at h
      · rename_i h3
        exact cat true _ _ h1 h2 h3 h
      · cases h
    · cases h
  · split at h
    · rename_i h1
      split at h
      · rename_i h3
        exact rep false _ _ rfl h1 h3 h
      · cases h
    · cases h
  · split at h
    · rename_i h1
      split at h
      · rename_i h3
        exact rep true _ _ rfl h1 h3 h
      · cases h
    · cases h
  · cases h
theorem noexc_ok {α : Type} {a : α} : NoExc (R.ok a S) := fun _ _ e => by cases e
theorem noexc_no {α : Type} : NoExc (R.no : R α) := fun _ _ e => by cases e
theorem bop_noexc {op : Bop} {x y : D} : NoExc (bop op x y S) := by
  unfold bop
  split <;> first | exact noexc_ok | exact noexc_no | (split <;> first | exact noexc_ok | exact noexc_no | (split <;> first | exact alloc_noexc | exact noexc_no))
end
end E1

set_option maxHeartbeats 1000000
/-! E1: trees without references. -/
namespace E1
open PySem PySem.Spec PyProof.Rows L2
/-! ### trees stand whatever the cells are -/
section
variable {K : Frag} {cad : String → Option Addr} {ι ι0 : List Addr} {B B0 : Addr → Prop} {H : Hp} {S : Store}
mutual
theorem VRel.re (hs : ∀ a, a ∉ ι → ¬ B a → a ∉ ι0 ∧ ¬ B0 a) : ∀ {d : D} {v : V}, noref d = true → VRel K cad ι B H d v → VRel K cad ι0 B0 H d v
  | _, _, _, .non => .non
  | _, _, _, .bl b => .bl b
  | _, _, _, .int i => .int i
  | _, _, _, .str x ok => .str x ok
  | _, _, n, .tup h r => .tup h (VRels.re hs (by simpa [noref] using n) r)
  | _, _, _, .ktup h => .ktup h
  | _, _, n, .fl h hi hb r => .fl h (hs _ hi hb).1 (hs _ hi hb).2 (VRels.re hs (by simpa [noref] using n) r)
  | _, _, n, .fdK h hi hb rk r => by
    simp only [noref, Bool.and_eq_true] at n
    exact .fdK h (hs _ hi hb).1 (hs _ hi hb).2 (VRels.re hs n.1 rk) (VRels.re hs n.2 r)
  | _, _, n, .fdT h hi hb rk r => by
    simp only [noref, Bool.and_eq_true] at n
    exact .fdT h (hs _ hi hb).1 (hs _ hi hb).2 (VRelss.re hs n.1 rk) (VRels.re hs n.2 r)
  | _, _, n, .obj hC h hi hb hn hf r => .obj hC h (hs _ hi hb).1 (hs _ hi hb).2 hn hf (VRels.re hs (by simpa [noref] using n) r)
  | _, _, n, .ref h => by simp [noref] at n
  | _, _, _, .scr h => .scr h
  | _, _, _, .exn0 hC h hx => .exn0 hC h hx
  | _, _, n, .exn1 hC h g hn hx r => .exn1 hC h g hn hx (VRels.re hs (by simpa [noref] using n) r)
theorem VRels.re (hs : ∀ a, a ∉ ι → ¬ B a → a ∉ ι0 ∧ ¬ B0 a) : ∀ {ds : List D} {vs : List V}, norefs ds = true → VRels K cad ι B H ds vs → VRels K cad ι0 B0 H ds vs
  | _, _, _, .nil => .nil
  | _, _, n, .cons h t => by
    simp only [norefs, Bool.and_eq_true] at n
    exact .cons (VRel.re hs n.1 h) (VRels.re hs n.2 t)
theorem VRelss.re (hs : ∀ a, a ∉ ι → ¬ B a → a ∉ ι0 ∧ ¬ B0 a) : ∀ {ds : List (List D)} {vs : List (List V)}, norefs (ds.map .tup) = true → VRelss K cad ι B H ds vs → VRelss K cad ι0 B0 H ds vs
  | _, _, _, .nil => .nil
  | _, _, n, .cons h t => by
    simp only [List.map_cons, norefs, noref, Bool.and_eq_true] at n
    exact .cons (VRels.re hs n.1 h) (VRelss.re hs n.2 t)
end
mutual
theorem VRel.flat : ∀ {d : D} {v : V}, flat d = true → VRel K cad ι B H d v → VRel K cad ι0 B0 H d v
  | _, _, _, .non => .non
  | _, _, _, .bl b => .bl b
  | _, _, _, .int i => .int i
  | _, _, _, .str x ok => .str x ok
  | _, _, n, .tup h r => .tup h (VRels.flat (by simpa [E1.flat] using n) r)
  | _, _, _, .ktup h => .ktup h
  | _, _, n, .fl h hi hb r => by simp [E1.flat] at n
  | _, _, n, .fdK h hi hb rk r => by simp [E1.flat] at n
  | _, _, n, .fdT h hi hb rk r => by simp [E1.flat] at n
  | _, _, n, .obj hC h hi hb hn hf r => by simp [E1.flat] at n
  | _, _, n, .ref h => by simp [E1.flat] at n
  | _, _, n, .scr h => by simp [E1.flat] at n
  | _, _, n, .exn0 _ _ _ => by simp [E1.flat] at n
  | _, _, n, .exn1 _ _ _ _ _ _ => by simp [E1.flat] at n
theorem VRels.flat : ∀ {ds : List D} {vs : List V}, flats ds = true → VRels K cad ι B H ds vs → VRels K cad ι0 B0 H ds vs
  | _, _, _, .nil => .nil
  | _, _, n, .cons h t => by
    simp only [flats, Bool.and_eq_true] at n
    exact .cons (VRel.flat n.1 h) (VRels.flat n.2 t)
end
theorem frz_rel (sim : Sim K cad ι B H S) (hs : ∀ a, a ∉ ι → ¬ B a → a ∉ ι0 ∧ ¬ B0 a) (hi : ∀ a, a ∈ ι → a ∉ ι0 ∧ ¬ B0 a) : ∀ (k : Nat) {d d' : D} {v : V}, frz k S d = some d' → VRel K cad ι B H d v → VRel K cad ι0 B0 H d' v := by
  intro k
  induction k with
  | zero =>
    intro d d' v h r
    simp only [frz] at h
    split at h
    · rename_i n; cases h; exact r.re hs n
    · cases h
  | succ k ih =>
    have all : ∀ {xs ys : List D} {vs : List V}, xs.mapM (frz k S) = some ys → VRels K cad ι B H xs vs → VRels K cad ι0 B0 H ys vs := by
      intro xs
      induction xs with
      | nil => intro ys vs h r; simp at h; subst h; cases r; exact .nil
      | cons x xs ihx =>
        intro ys vs h r
        cases r with
        | cons rh rt =>
          simp only [List.mapM_cons, Option.bind_eq_bind, Option.bind_eq_some_iff, Option.pure_def, Option.some.injEq] at h
          obtain ⟨y, h1, ys', h2, rfl⟩ := h
          exact .cons (ih h1 rh) (ihx h2 rt)
    intro d d' v h r
    simp only [frz] at h
    split at h
    · rename_i n; cases h; exact r.re hs n
    · cases r with
      | @tup a vs xs hh r =>
        simp only [rb] at h
        obtain ⟨ys, h1, rfl⟩ := Option.map_eq_some_iff.mp h
        exact .tup hh (all h1 r)
      | @ktup a ns hh =>
        simp only [rb] at h
        obtain ⟨ys, h1, rfl⟩ := Option.map_eq_some_iff.mp h
        have e : ∀ (ns : List Int) ys, (ns.map D.int).mapM (frz k S) = some ys → ys = ns.map D.int := by
          intro ns
          induction ns with
          | nil => intro ys h; simp at h; exact h
          | cons n ns ih2 =>
            intro ys h
            simp only [List.map_cons, List.mapM_cons, Option.bind_eq_bind, Option.bind_eq_some_iff, Option.pure_def, Option.some.injEq] at h
            obtain ⟨y, h1, ys', h2, rfl⟩ := h
            have hy : y = .int n := by
              cases k <;> simp [frz, noref] at h1 <;> exact h1.symm
            rw [hy, ih2 _ h2]; rfl
        rw [e ns ys h1]
        exact .ktup hh
      | @fl a vs xs hh h1 h2 r =>
        simp only [rb] at h
        obtain ⟨ys, h3, rfl⟩ := Option.map_eq_some_iff.mp h
        exact .fl hh (hs _ h1 h2).1 (hs _ h1 h2).2 (all h3 r)
      | @obj a A dx fs C ns vs hC hh h1 h2 hn hf r =>
        simp only [rb] at h
        obtain ⟨ys, h3, rfl⟩ := Option.map_eq_some_iff.mp h
        exact .obj hC hh (hs _ h1 h2).1 (hs _ h1 h2).2 hn hf (all h3 r)
      | @ref i a h1 =>
        have ha := hi a (List.mem_of_getElem? h1)
        cases e : S[i]? with
        | none =>
          have e2 : rb S (.ref i) = .ref i := by simp only [rb, e]
          rw [e2] at h; cases h
        | some c =>
          have q := sim.cell i c a e h1
          cases q with
          | @lst a xs vs g r =>
            have e2 : rb S (.ref i) = .fl xs := by simp only [rb, e]
            rw [e2] at h; dsimp only at h
            obtain ⟨ys, h3, rfl⟩ := Option.map_eq_some_iff.mp h
            exact .fl g ha.1 ha.2 (all h3 r)
          | @dicK a kvs ks vs g rk r =>
            have e2 : rb S (.ref i) = .fd false ks vs := by simp only [rb, e]
            rw [e2] at h; dsimp only at h
            split at h
            · rename_i n
              obtain ⟨ys, h3, rfl⟩ := Option.map_eq_some_iff.mp h
              exact .fdK (.inl g) ha.1 ha.2 (rk.re hs n) (all h3 r)
            · cases h
          | @dicT a kvs ks vs g rk r =>
            have e2 : rb S (.ref i) = .fd true (ks.map .tup) vs := by simp only [rb, e]
            rw [e2] at h; dsimp only at h
            split at h
            · rename_i n
              obtain ⟨ys, h3, rfl⟩ := Option.map_eq_some_iff.mp h
              exact .fdT (.inl g) ha.1 ha.2 (rk.re hs n) (all h3 r)
            · cases h
          | @ins a A dx fs C ns vs hC g hn hf r =>
            have e2 : rb S (.ref i) = .obj C ns vs := by simp only [rb, e]
            rw [e2] at h; dsimp only at h
            obtain ⟨ys, h3, rfl⟩ := Option.map_eq_some_iff.mp h
            exact .obj hC g ha.1 ha.2 hn hf (all h3 r)
      | fdK hh h1 h2 rk r =>
        simp only [rb] at h
        split at h
        · rename_i n
          obtain ⟨ys, h3, rfl⟩ := Option.map_eq_some_iff.mp h
          exact .fdK hh (hs _ h1 h2).1 (hs _ h1 h2).2 (rk.re hs n) (all h3 r)
        · cases h
      | fdT hh h1 h2 rk r =>
        simp only [rb] at h
        split at h
        · rename_i n
          obtain ⟨ys, h3, rfl⟩ := Option.map_eq_some_iff.mp h
          exact .fdT hh (hs _ h1 h2).1 (hs _ h1 h2).2 (rk.re hs n) (all h3 r)
        · cases h
      | scr hh => exact absurd rfl (by assumption)
      | exn0 hC h hx => exact absurd rfl (by assumption)
      | exn1 hC h1 g hn hx r => simp only [rb] at h; cases h
      | non => exact absurd rfl (by assumption)
      | bl b => exact absurd rfl (by assumption)
      | int b => exact absurd rfl (by assumption)
      | str b ok => exact absurd rfl (by assumption)
/-! ### new cells fall out -/
mutual
theorem VRel.low {t : List Addr} : ∀ {d : D} {v : V}, below ι.length d = true → VRel K cad (ι ++ t) B H d v → VRel K cad ι B H d v
  | _, _, _, .non => .non
  | _, _, _, .bl b => .bl b
  | _, _, _, .int i => .int i
  | _, _, _, .str x ok => .str x ok
  | _, _, n, .tup h r => .tup h (VRels.low (by simpa [below] using n) r)
  | _, _, _, .ktup h => .ktup h
  | _, _, n, .fl h hi hb r => .fl h (fun z => hi (List.mem_append_left _ z)) hb (VRels.low (by simpa [below] using n) r)
  | _, _, n, .fdK h hi hb rk r => by
    simp only [below, Bool.and_eq_true] at n
    exact .fdK h (fun z => hi (List.mem_append_left _ z)) hb (VRels.low n.1 rk) (VRels.low n.2 r)
  | _, _, n, .fdT h hi hb rk r => by
    simp only [below, Bool.and_eq_true] at n
    exact .fdT h (fun z => hi (List.mem_append_left _ z)) hb (VRelss.low n.1 rk) (VRels.low n.2 r)
  | _, _, n, .obj hC h hi hb hn hf r => .obj hC h (fun z => hi (List.mem_append_left _ z)) hb hn hf (VRels.low (by simpa [below] using n) r)
  | _, _, n, .ref h => by
    simp only [below, decide_eq_true_eq] at n
    rw [List.getElem?_append_left n] at h
    exact .ref h
  | _, _, _, .scr h => .scr h
  | _, _, _, .exn0 hC h hx => .exn0 hC h hx
  | _, _, n, .exn1 hC h g hn hx r => .exn1 hC h g hn hx (VRels.low (by simpa [below] using n) r)
theorem VRels.low {t : List Addr} : ∀ {ds : List D} {vs : List V}, belows ι.length ds = true → VRels K cad (ι ++ t) B H ds vs → VRels K cad ι B H ds vs
  | _, _, _, .nil => .nil
  | _, _, n, .cons h r => by
    simp only [belows, Bool.and_eq_true] at n
    exact .cons (VRel.low n.1 h) (VRels.low n.2 r)
theorem VRelss.low {t : List Addr} : ∀ {ds : List (List D)} {vs : List (List V)}, belows ι.length (ds.map .tup) = true → VRelss K cad (ι ++ t) B H ds vs → VRelss K cad ι B H ds vs
  | _, _, _, .nil => .nil
  | _, _, n, .cons h r => by
    simp only [List.map_cons, belows, below, Bool.and_eq_true] at n
    exact .cons (VRels.low n.1 h) (VRelss.low n.2 r)
end
theorem frzF_rel {m : Nat} (sim : Sim K cad ι B H S) (hs : ∀ a, a ∉ ι → ¬ B a → a ∉ ι0 ∧ ¬ B0 a) (hi : ∀ j a, m ≤ j → ι[j]? = some a → a ∉ ι0 ∧ ¬ B0 a) : ∀ (k : Nat) {d d' : D} {v : V}, frzF m k S d = some d' → VRel K cad ι B H d v → VRel K cad ι0 B0 H d' v := by
  intro k
  induction k with
  | zero =>
    intro d d' v h r
    simp only [frzF] at h
    split at h
    · rename_i n; cases h; exact r.re hs n
    · cases h
  | succ k ih =>
    have all : ∀ {xs ys : List D} {vs : List V}, xs.mapM (frzF m k S) = some ys → VRels K cad ι B H xs vs → VRels K cad ι0 B0 H ys vs := by
      intro xs
      induction xs with
      | nil => intro ys vs h r; simp at h; subst h; cases r; exact .nil
      | cons x xs ihx =>
        intro ys vs h r
        cases r with
        | cons rh rt =>
          simp only [List.mapM_cons, Option.bind_eq_bind, Option.bind_eq_some_iff, Option.pure_def, Option.some.injEq] at h
          obtain ⟨y, h1, ys', h2, rfl⟩ := h
          exact .cons (ih h1 rh) (ihx h2 rt)
    intro d d' v h r
    simp only [frzF] at h
    split at h
    · rename_i n; cases h; exact r.re hs n
    · rename_i nn
      cases r with
      | @tup a vs xs hh r =>
        dsimp only at h
        obtain ⟨ys, h1, rfl⟩ := Option.map_eq_some_iff.mp h
        exact .tup hh (all h1 r)
      | @ktup a ns hh =>
        exfalso
        apply nn
        show norefs _ = true
        have : ∀ ns : List Int, norefs (ns.map D.int) = true := by
          intro ns
          induction ns with
          | nil => rfl
          | cons n ns ih => simp only [List.map_cons, norefs, ih]; rfl
        exact this ns
      | @fl a vs xs hh h1 h2 r =>
        dsimp only at h
        obtain ⟨ys, h3, rfl⟩ := Option.map_eq_some_iff.mp h
        exact .fl hh (hs _ h1 h2).1 (hs _ h1 h2).2 (all h3 r)
      | @obj a A dx fs C ns vs hC hh h1 h2 hn hf r =>
        dsimp only at h
        obtain ⟨ys, h3, rfl⟩ := Option.map_eq_some_iff.mp h
        exact .obj hC hh (hs _ h1 h2).1 (hs _ h1 h2).2 hn hf (all h3 r)
      | @ref i a h1 =>
        dsimp only at h
        split at h
        · rename_i hm
          have ha := hi i a hm h1
          split at h
          · rename_i xs e
            have q := sim.cell i _ a e h1
            cases q with
            | lst g r =>
              obtain ⟨ys, h3, rfl⟩ := Option.map_eq_some_iff.mp h
              exact .fl g ha.1 ha.2 (all h3 r)
          · rename_i C ns vs e
            have q := sim.cell i _ a e h1
            cases q with
            | ins hC g hn hf r =>
              obtain ⟨ys, h3, rfl⟩ := Option.map_eq_some_iff.mp h
              exact .obj hC g ha.1 ha.2 hn hf (all h3 r)
          · rename_i tk ks vs e
            have q := sim.cell i _ a e h1
            split at h
            · rename_i n
              obtain ⟨ys, h3, rfl⟩ := Option.map_eq_some_iff.mp h
              cases q with
              | dicK g rk r => exact .fdK (.inl g) ha.1 ha.2 (rk.re hs n) (all h3 r)
              | dicT g rk r => exact .fdT (.inl g) ha.1 ha.2 (rk.re hs n) (all h3 r)
            · cases h
          · cases h
        · cases h
      | fdK hh h1 h2 rk r =>
        dsimp only at h
        split at h
        · rename_i n
          obtain ⟨ys, h3, rfl⟩ := Option.map_eq_some_iff.mp h
          exact .fdK hh (hs _ h1 h2).1 (hs _ h1 h2).2 (rk.re hs n) (all h3 r)
        · cases h
      | fdT hh h1 h2 rk r =>
        dsimp only at h
        split at h
        · rename_i n
          obtain ⟨ys, h3, rfl⟩ := Option.map_eq_some_iff.mp h
          exact .fdT hh (hs _ h1 h2).1 (hs _ h1 h2).2 (rk.re hs n) (all h3 r)
        · cases h
      | scr hh => exact absurd rfl (by assumption)
      | exn0 hC h hx => exact absurd rfl (by assumption)
      | exn1 hC h1 g hn hx r => dsimp only at h; cases h
      | non => exact absurd rfl (by assumption)
      | bl b => exact absurd rfl (by assumption)
      | int b => exact absurd rfl (by assumption)
      | str b ok => exact absurd rfl (by assumption)
theorem CellR.low {t : List Addr} {c : Cell} {a : Addr} (hb : cellB ι.length c = true) (h : CellR K cad (ι ++ t) B H c a) : CellR K cad ι B H c a := by
  cases h with
  | lst h r => exact .lst h (VRels.low (by simpa [cellB] using hb) r)
  | dicK h rk r =>
    simp only [cellB, Bool.and_eq_true] at hb
    exact .dicK h (VRels.low hb.1 rk) (VRels.low hb.2 r)
  | dicT h rk r =>
    simp only [cellB, Bool.and_eq_true] at hb
    exact .dicT h (VRelss.low hb.1 rk) (VRels.low hb.2 r)
  | ins hC h hn hf r => exact .ins hC h hn hf (VRels.low (by simpa [cellB] using hb) r)
theorem freeze_ok {S2 S3 : Store} {H2 : Hp} {ι2 : List Addr} {d d' : D} {v : V} (sim : Sim K cad ι B H S) (st : Step K ι H ι2 H2) (sim2 : Sim K cad ι2 B H2 S2) (r : VRel K cad ι2 B H2 d v) (h : freeze S.length d S2 = .ok d' S3) :
    Step K ι H ι H2 ∧ Sim K cad ι B H2 S3 ∧ VRel K cad ι B H2 d' v := by
  unfold freeze at h
  split at h
  · rename_i hc
    split at h
    · rename_i d2 e
      cases h
      obtain ⟨t, rfl⟩ := st.pre
      have hl : S.length = ι.length := sim.len.symm
      refine ⟨⟨⟨[], by simp⟩, st.keep, fun a h n => absurd h n, st.there⟩, ⟨sim.nd, ?_, fun i c a h1 h2 => ?_, sim2.occ, fun a h => sim2.dis a (List.mem_append_left _ h), trivial⟩, ?_⟩
      · rw [List.length_take, Nat.min_eq_left hc.1]; exact sim.len
      · have hi : i < S.length := by rw [hl]; exact (List.getElem?_eq_some_iff.mp h2).1
        rw [List.getElem?_take_of_lt hi] at h1
        have hb : cellB ι.length c = true := by
          rw [← hl]
          refine List.all_eq_true.mp hc.2 c ?_
          refine List.mem_of_getElem? (i := i) ?_
          rw [List.getElem?_take_of_lt hi]; exact h1
        exact (sim2.cell i c a h1 (by rw [List.getElem?_append_left (by rw [← hl]; exact hi)]; exact h2)).low hb
      · refine frzF_rel sim2 (fun a h1 h2 => ⟨fun z => h1 (List.mem_append_left _ z), h2⟩) (fun j a hj ha => ⟨fun z => ?_, sim2.dis a (List.mem_of_getElem? ha)⟩) 6 e r
        rw [hl] at hj
        obtain ⟨i, hi⟩ := List.getElem?_of_mem z
        have hil := (List.getElem?_eq_some_iff.mp hi).1
        have hi2 : (ι ++ t)[i]? = some a := by rw [List.getElem?_append_left hil]; exact hi
        obtain ⟨l1, e1⟩ := List.getElem?_eq_some_iff.mp ha
        obtain ⟨l2, e2⟩ := List.getElem?_eq_some_iff.mp hi2
        have := (List.getElem_inj sim2.nd).mp (e1.trans e2.symm)
        omega
    · cases h
  · cases h
end

end E1

set_option maxHeartbeats 1000000
/-! E1: comparisons. -/
namespace E1
open PySem PySem.Spec PyProof.Rows L2

mutual
def toPy : D → PyData
  | .non => .none
  | .bl b => .bool b
  | .int i => .int i
  | .str x => .str x
  | .tup xs => .tuple (toPys xs)
  | .fl xs => .list (toPys xs)
  | _ => .none
def toPys : List D → List PyData
  | [] => []
  | x :: r => toPy x :: toPys r
end
mutual
theorem deq_eqv : ∀ (x y : D) (k j : Nat), dataK k x = true → dataK j y = true → PyData.eqv (toPy x) (toPy y) = deqB x y
  | x, y, k, j, hx, hy => by
    cases x with
    | tup xs =>
      cases y with
      | tup ys =>
        cases k with
        | zero => simp [dataK] at hx
        | succ k => cases j with
          | zero => simp [dataK] at hy
          | succ j => simp only [toPy, PyData.eqv, deqB]; exact deqs_eqv xs ys k j (by simpa [dataK] using hx) (by simpa [dataK] using hy)
      | _ => first | (simp [toPy, PyData.eqv, deqB]; done) | (cases j <;> simp [dataK] at hy)
    | fl xs =>
      cases y with
      | fl ys =>
        cases k with
        | zero => simp [dataK] at hx
        | succ k => cases j with
          | zero => simp [dataK] at hy
          | succ j => simp only [toPy, PyData.eqv, deqB]; exact deqs_eqv xs ys k j (by simpa [dataK] using hx) (by simpa [dataK] using hy)
      | _ => first | (simp [toPy, PyData.eqv, deqB]; done) | (cases j <;> simp [dataK] at hy)
    | non => cases y <;> first | (simp [toPy, PyData.eqv, deqB]; done) | (cases j <;> simp [dataK] at hy)
    | bl b => cases y <;> first | (simp [toPy, PyData.eqv, deqB]; done) | (cases j <;> simp [dataK] at hy)
    | int b => cases y <;> first | (simp [toPy, PyData.eqv, deqB]; done) | (cases j <;> simp [dataK] at hy)
    | str b => cases y <;> first | (simp [toPy, PyData.eqv, deqB]; done) | (cases j <;> simp [dataK] at hy)
    | _ => cases k <;> simp [dataK] at hx
theorem deqs_eqv : ∀ (xs ys : List D) (k j : Nat), (∀ x ∈ xs, dataK k x = true) → (∀ y ∈ ys, dataK j y = true) → PyData.eqvAll (toPys xs) (toPys ys) = deqBs xs ys
  | [], [], _, _, _, _ => by simp [toPys, PyData.eqvAll, deqBs]
  | [], _ :: _, _, _, _, _ => by simp [toPys, PyData.eqvAll, deqBs]
  | _ :: _, [], _, _, _, _ => by simp [toPys, PyData.eqvAll, deqBs]
  | x :: xs, y :: ys, k, j, hx, hy => by
    simp only [toPys, PyData.eqvAll, deqBs]
    rw [deq_eqv x y k j (hx x (by simp)) (hy y (by simp)), deqs_eqv xs ys k j (fun z hz => hx z (by simp [hz])) (fun z hz => hy z (by simp [hz]))]
end

section
variable {X : Cx} {cad : String → Option Addr} {ι : List Addr} {B : Addr → Prop} {H : Hp} {S S' : Store} {Q : VK}
theorem canLayAll0_ints : ∀ ns : List Int, PyData.canLayAll0 (toPys (ns.map D.int)) = true
  | [] => rfl
  | n :: ns => by
    show (PyData.canLay0 (.int n) && PyData.canLayAll0 (toPys (ns.map D.int))) = true
    rw [canLayAll0_ints ns]; rfl
theorem depth_ints : ∀ ns : List Int, PyData.depthAll (toPys (ns.map D.int)) = 0
  | [] => rfl
  | n :: ns => by
    show max (PyData.depth (.int n)) (PyData.depthAll (toPys (ns.map D.int))) = 0
    rw [depth_ints ns]; rfl
theorem dpAll_ints (K : Frag) : ∀ ns : List Int, DpAll K H (ns.map V.int) (toPys (ns.map D.int))
  | [] => .nil
  | n :: ns => .cons (.int n) (dpAll_ints K ns)
mutual
theorem data_dp : ∀ {d : D} {v : V} (k : Nat), dataK k d = true → VRel X.K cad ι B H d v → Dp X.K H v (toPy d) ∧ PyData.canLay0 (toPy d) = true ∧ (toPy d).depth ≤ k
  | _, _, k, _, .non => ⟨.non, rfl, Nat.zero_le _⟩
  | _, _, k, _, .bl b => ⟨.bl b, rfl, Nat.zero_le _⟩
  | _, _, k, _, .int i => ⟨.int i, rfl, Nat.zero_le _⟩
  | _, _, k, _, .str x ok => ⟨.str x, ok, Nat.zero_le _⟩
  | _, _, 0, hd, .tup h r => by simp [dataK] at hd
  | _, _, k + 1, hd, .tup h r => by
    obtain ⟨h1, h2, h3⟩ := datas_dp k (by simpa [dataK] using hd) r
    exact ⟨.tup (.of h) h1, h2, Nat.succ_le_succ h3⟩
  | _, _, 0, hd, .ktup h => by simp [dataK] at hd
  | _, _, k + 1, _, .ktup (ns := ns) h => ⟨.tup (.inr h) (dpAll_ints _ ns), canLayAll0_ints ns, by
      show PyData.depthAll (toPys (ns.map D.int)) + 1 ≤ k + 1
      rw [depth_ints]; omega⟩
  | _, _, 0, hd, .fl h _ _ r => by simp [dataK] at hd
  | _, _, k + 1, hd, .fl h _ _ r => by
    obtain ⟨h1, h2, h3⟩ := datas_dp k (by simpa [dataK] using hd) r
    exact ⟨.lst (.of h) h1, h2, Nat.succ_le_succ h3⟩
  | _, _, k, hd, .fdK _ _ _ _ _ => by cases k <;> simp [dataK] at hd
  | _, _, k, hd, .fdT _ _ _ _ _ => by cases k <;> simp [dataK] at hd
  | _, _, k, hd, .obj _ _ _ _ _ _ _ => by cases k <;> simp [dataK] at hd
  | _, _, k, hd, .ref _ => by cases k <;> simp [dataK] at hd
  | _, _, k, hd, .scr _ => by cases k <;> simp [dataK] at hd
  | _, _, k, hd, .exn0 _ _ _ => by cases k <;> simp [dataK] at hd
  | _, _, k, hd, .exn1 _ _ _ _ _ _ => by cases k <;> simp [dataK] at hd
theorem datas_dp : ∀ {ds : List D} {vs : List V} (k : Nat), (∀ d ∈ ds, dataK k d = true) → VRels X.K cad ι B H ds vs → DpAll X.K H vs (toPys ds) ∧ PyData.canLayAll0 (toPys ds) = true ∧ PyData.depthAll (toPys ds) ≤ k
  | _, _, k, _, .nil => ⟨.nil, rfl, Nat.zero_le _⟩
  | _, _, k, hd, .cons h t => by
    obtain ⟨a1, a2, a3⟩ := data_dp k (hd _ (by simp)) h
    obtain ⟨b1, b2, b3⟩ := datas_dp k (fun d q => hd d (by simp [q])) t
    refine ⟨.cons a1 b1, ?_, Nat.max_le.mpr ⟨a3, b3⟩⟩
    show (PyData.canLay0 _ && PyData.canLayAll0 _) = true
    rw [a2, b2]; rfl
end
theorem rb_dp (sim : Sim X.K cad ι B H S) {d : D} {v : V} (hd : dataK DK (rb S d) = true) (r : VRel X.K cad ι B H d v) : Dp X.K H v (toPy (rb S d)) ∧ SeqAt.shaped (toPy (rb S d)) = true := by
  have fin : ∀ {p : PyData}, PyData.canLay0 p = true → p.depth ≤ DK → SeqAt.shaped p = true := fun h1 h2 => by
    unfold SeqAt.shaped
    rw [h1, decide_eq_true (Nat.le_trans h2 (by decide))]; rfl
  by_cases hr : ∃ i, d = .ref i
  · obtain ⟨i, rfl⟩ := hr
    cases e : rb S (.ref i) with
    | fl xs =>
      obtain ⟨a', vs, ea, h1, h2⟩ := rb_fl sim r e
      rw [e] at hd
      obtain ⟨b1, b2, b3⟩ := datas_dp (39) (by simpa [dataK, DK] using hd) h2
      cases ea
      exact ⟨.lst (.of h1) b1, fin (p := .list (toPys xs)) b2 (Nat.succ_le_succ b3)⟩
    | _ =>
      rw [e] at hd
      simp only [rb] at e
      exfalso
      cases q : S[i]? with
      | none => rw [q] at e; cases e <;> simp [dataK, DK] at hd
      | some c => rw [q] at e; cases c <;> cases e <;> simp [dataK, DK] at hd
  · have e : rb S d = d := by
      cases d with
      | ref i => exact absurd ⟨i, rfl⟩ hr
      | _ => rfl
    rw [e] at hd ⊢
    obtain ⟨h1, h2, h3⟩ := data_dp DK hd r
    exact ⟨h1, fin h2 h3⟩

theorem rbd_dp (sim : Sim X.K cad ι B H S) {d : D} {v : V} (hd : dataK DK (rbd S d) = true) (r : VRel X.K cad ι B H d v) : Dp X.K H v (toPy (rbd S d)) ∧ SeqAt.shaped (toPy (rbd S d)) = true := by
  unfold rbd at hd ⊢
  cases e : frz 6 S d with
  | none => rw [e] at hd; exact rb_dp sim hd r
  | some d' =>
    rw [e] at hd
    have r' : VRel X.K cad [] (fun _ => False) H d' v := frz_rel sim (fun a _ _ => ⟨by simp, fun z => z⟩) (fun a _ => ⟨by simp, fun z => z⟩) 6 e r
    obtain ⟨h1, h2, h3⟩ := data_dp DK hd r'
    refine ⟨h1, ?_⟩
    unfold SeqAt.shaped
    rw [h2, decide_eq_true (Nat.le_trans h3 (by decide))]; rfl
theorem rb_dpL (sim : Sim X.K cad ι B H S) {d : D} {v : V} {xs : List D} (r : VRel X.K cad ι B H d v) (e : rb S d = .fl xs) (hd : xs.all (dataK DK) = true) : Dp X.K H v (.list (toPys xs)) ∧ SeqAt.shaped (.list (toPys xs)) = true := by
  obtain ⟨a', vs, ea, h1, h2⟩ := rb_fl sim r e
  obtain ⟨b1, b2, b3⟩ := datas_dp DK (by simpa using hd) h2
  subst ea
  refine ⟨.lst (.of h1) b1, ?_⟩
  unfold SeqAt.shaped
  rw [show PyData.canLay0 (.list (toPys xs)) = true from b2, decide_eq_true (show PyData.depth (.list (toPys xs)) ≤ 64 from Nat.le_trans (Nat.succ_le_succ b3) (by decide))]
  rfl
theorem rbd_dpL (sim : Sim X.K cad ι B H S) {d : D} {v : V} {xs : List D} (r : VRel X.K cad ι B H d v) (e : rbd S d = .fl xs) (hd : xs.all (dataK DK) = true) : Dp X.K H v (.list (toPys xs)) ∧ SeqAt.shaped (.list (toPys xs)) = true := by
  unfold rbd at e
  cases e2 : frz 6 S d with
  | none => rw [e2] at e; exact rb_dpL sim r e hd
  | some d' =>
    rw [e2] at e
    have e : d' = .fl xs := e
    subst e
    have r' : VRel X.K cad [] (fun _ => False) H (.fl xs) v := frz_rel sim (fun a _ _ => ⟨by simp, fun z => z⟩) (fun a _ => ⟨by simp, fun z => z⟩) 6 e2 r
    cases r' with
    | @fl a vs _ hh _ _ rr =>
      obtain ⟨b1, b2, b3⟩ := datas_dp DK (by simpa using hd) rr
      refine ⟨.lst (.of hh) b1, ?_⟩
      unfold SeqAt.shaped
      rw [show PyData.canLay0 (.list (toPys xs)) = true from b2, decide_eq_true (show PyData.depth (.list (toPys xs)) ≤ 64 from Nat.le_trans (Nat.succ_le_succ b3) (by decide))]
      rfl
theorem deq_some {x y : D} {b : Bool} (h : deq x y = some b) : dataK DK x = true ∧ dataK DK y = true ∧ b = deqB x y := by
  unfold deq at h
  split at h
  · rename_i q
    cases h
    rw [Bool.and_eq_true] at q
    exact ⟨q.1, q.2, rfl⟩
  · cases h
theorem toPys_any (x : D) : ∀ (ys : List D) (k j : Nat), dataK k x = true → ys.all (dataK j) = true → (toPys ys).any (fun z => PyData.eqv z (toPy x)) = ys.any fun y => deqB y x
  | [], _, _, _, _ => rfl
  | y :: ys, k, j, hx, hy => by
    rw [List.all_cons, Bool.and_eq_true] at hy
    show (PyData.eqv (toPy y) (toPy x) || (toPys ys).any _) = (deqB y x || ys.any _)
    rw [deq_eqv y x j k hy.1 hx, toPys_any x ys k j hx hy.2]

/-! ### dicts -/
theorem deqB_key {x k : D} {a b : Key} (h : keyD x = some a) (g : keyD k = some b) : deqB x k = decide (a = b) := by
  cases x <;> cases k <;> simp only [keyD, Option.some.injEq, reduceCtorEq] at h g <;> subst h <;> subst g <;> simp [deqB] <;> exact Bool.beq_eq_decide_eq _ _
theorem deqB_keys : ∀ {xs ks : List D} {a b : List Key}, keysD xs = some a → keysD ks = some b → deqBs xs ks = decide (a = b)
  | [], [], _, _, h, g => by cases h; cases g; rfl
  | [], k :: ks, a, b, h, g => by
    simp only [keysD] at h g
    cases h
    split at g <;> cases g
    rfl
  | x :: xs, [], a, b, h, g => by
    simp only [keysD] at h g
    cases g
    split at h <;> cases h
    rfl
  | x :: xs, k :: ks, a, b, h, g => by
    simp only [keysD] at h g
    split at h
    · rename_i h1 h2
      cases h
      split at g
      · rename_i g1 g2
        cases g
        simp only [deqBs]
        rw [deqB_key h1 g1, deqB_keys h2 g2]
        simp
      · cases g
    · cases h
theorem find_K {k : D} {key : Key} (hk : keyD k = some key) : ∀ {ks : List D} {kvs : List (Key × V)}, keysD ks = some (kvs.map (·.1)) →
    (findKey k ks = none → valV kvs key = none) ∧ ∀ j, findKey k ks = some j → ∃ v, (kvs.map (·.2))[j]? = some v ∧ valV kvs key = some v
  | [], [], _ => ⟨fun _ => rfl, fun _ h => by cases h⟩
  | [], p :: kvs, h => by cases h
  | x :: ks, [], h => by simp only [keysD] at h; split at h <;> cases h
  | x :: ks, p :: kvs, h => by
    simp only [keysD] at h
    split at h
    · rename_i h1 h2
      cases h
      obtain ⟨i1, i2⟩ := find_K hk (kvs := kvs) h2
      simp only [findKey]
      rw [deqB_key h1 hk]
      by_cases e : p.1 = key
      · rw [decide_eq_true e, if_pos rfl]
        refine ⟨fun h => (by cases h), fun j hj => ?_⟩
        cases hj
        exact ⟨p.2, rfl, valV_pos e⟩
      · rw [decide_eq_false e, if_neg (by simp), valV_neg e]
        refine ⟨fun h => i1 (by simpa using h), fun j hj => ?_⟩
        obtain ⟨j', e', rfl⟩ := Option.map_eq_some_iff.mp hj
        obtain ⟨v, q1, q2⟩ := i2 j' e'
        exact ⟨v, by simpa using q1, q2⟩
    · cases h
theorem find_T {k : List D} {key : List Key} (hk : keysD k = some key) : ∀ {ks : List (List D)} {kvs : List (List Key × V)}, ks.map keysD = (kvs.map (·.1)).map some →
    (findKey (.tup k) (ks.map .tup) = none → valV kvs key = none) ∧ ∀ j, findKey (.tup k) (ks.map .tup) = some j → ∃ v, (kvs.map (·.2))[j]? = some v ∧ valV kvs key = some v
  | [], [], _ => ⟨fun _ => rfl, fun _ h => by cases h⟩
  | [], p :: kvs, h => by cases h
  | x :: ks, [], h => by cases h
  | x :: ks, p :: kvs, h => by
    simp only [List.map_cons, List.cons.injEq] at h
    obtain ⟨h1, h2⟩ := h
    obtain ⟨i1, i2⟩ := find_T hk (kvs := kvs) h2
    have eb : deqB (.tup x) (.tup k) = decide (p.1 = key) := by simp only [deqB]; exact deqB_keys h1 hk
    simp only [List.map_cons, findKey]
    rw [eb]
    by_cases e : p.1 = key
    · rw [decide_eq_true e, if_pos rfl]
      refine ⟨fun h => (by cases h), fun j hj => ?_⟩
      cases hj
      exact ⟨p.2, rfl, valV_pos e⟩
    · rw [decide_eq_false e, if_neg (by simp), valV_neg e]
      refine ⟨fun h => i1 (by simpa using h), fun j hj => ?_⟩
      obtain ⟨j', e', rfl⟩ := Option.map_eq_some_iff.mp hj
      obtain ⟨v, q1, q2⟩ := i2 j' e'
      exact ⟨v, by simpa using q1, q2⟩
theorem keyD_of {d : D} {k : Key} (r : VRel X.K cad ι B H d (kV k)) : keyD d = some k := by
  cases k with
  | inl i => generalize hv : kV (Sum.inl i) = v at r; cases r <;> cases hv; rfl
  | inr x => generalize hv : kV (Sum.inr x) = v at r; cases r <;> cases hv; rfl
theorem keysD_of : ∀ {ds : List D} {ks : List Key}, VRels X.K cad ι B H ds (ks.map kV) → keysD ds = some ks := by
  intro ds
  induction ds with
  | nil => intro ks r; cases ks with
    | nil => rfl
    | cons _ _ => cases r
  | cons d ds ih => intro ks r; cases ks with
    | nil => cases r
    | cons k ks => cases r with
      | cons h t => simp only [keysD]; rw [keyD_of h, ih t]
theorem keysDs_of : ∀ {dss : List (List D)} {kss : List (List Key)}, VRelss X.K cad ι B H dss (kss.map fun k => k.map kV) → dss.map keysD = kss.map some := by
  intro dss
  induction dss with
  | nil => intro kss r; cases kss with
    | nil => rfl
    | cons _ _ => cases r
  | cons d ds ih => intro kss r; cases kss with
    | nil => cases r
    | cons k ks => cases r with
      | cons h t => rw [List.map_cons, List.map_cons, keysD_of h, ih t]
inductive FdR (K : Frag) (cad : String → Option Addr) (ι : List Addr) (B : Addr → Prop) (H : Hp) : Bool → List D → List D → Addr → Prop
  | k {a : Addr} {kvs : List (Key × V)} {ks vs : List D} (h : Rd H a (.dK kvs)) (rk : VRels K cad ι B H ks (kvs.map fun p => kV p.1)) (r : VRels K cad ι B H vs (kvs.map (·.2))) : FdR K cad ι B H false ks vs a
  | t {a : Addr} {kvs : List (List Key × V)} {ks : List (List D)} {vs : List D} (h : Rd H a (.dT kvs)) (rk : VRelss K cad ι B H ks (kvs.map fun p => p.1.map kV)) (r : VRels K cad ι B H vs (kvs.map (·.2))) : FdR K cad ι B H true (ks.map .tup) vs a
theorem rb_fd (sim : Sim X.K cad ι B H S) {d : D} {v : V} {tk : Bool} {ks vs : List D} (r : VRel X.K cad ι B H d v) (h : rb S d = .fd tk ks vs) : ∃ a, v = .ref a ∧ FdR X.K cad ι B H tk ks vs a := by
  cases r with
  | @fdK a kvs ks vs hh hi hb rk r => cases h; exact ⟨a, rfl, .k hh rk r⟩
  | @fdT a kvs ks vs hh hi hb rk r => cases h; exact ⟨a, rfl, .t hh rk r⟩
  | @ref i a hi =>
    simp only [rb] at h
    cases e : S[i]? with
    | none => rw [e] at h; cases h
    | some c =>
      have q := sim.cell i c a e hi
      rw [e] at h
      cases q with
      | lst g r => cases h
      | dicK g rk r => cases h; exact ⟨a, rfl, .k (.inl g) rk r⟩
      | dicT g rk r => cases h; exact ⟨a, rfl, .t (.inl g) rk r⟩
      | ins _ _ _ _ _ => cases h
  | _ => cases h
theorem keysD_str : ∀ {ds : List D} {vs : List V}, VRels X.K cad ι B H ds vs → ds.all isStrD = true → ∃ ks : List Key, keysD ds = some ks ∧ vs = ks.map kV := by
  intro ds
  induction ds with
  | nil => intro vs r _; cases r; exact ⟨[], rfl, rfl⟩
  | cons d ds ih =>
    intro vs r h
    cases r with
    | cons hd t =>
      rw [List.all_cons, Bool.and_eq_true] at h
      obtain ⟨ks, e, rfl⟩ := ih t h.2
      cases d with
      | str x =>
        cases hd.strOf
        exact ⟨.inr x :: ks, by simp [keysD, keyD, e], rfl⟩
      | _ => exact absurd h.1 (by simp [isStrD])
theorem fd_get {tk : Bool} {k : D} {y : V} {ks vs : List D} {a : Addr} {o : Option Nat} (h : FdR X.K cad ι B H tk ks vs a) (rk : VRel X.K cad ι B H k y) (e : keyAt tk k ks = some o) :
    ∃ r, DGet H a y r ∧ (o = none → r = none) ∧ ∀ j, o = some j → ∃ d v, vs[j]? = some d ∧ r = some v ∧ VRel X.K cad ι B H d v := by
  unfold keyAt at e
  split at e
  · rename_i hk
    cases e
    cases h with
    | @k a kvs ks vs h rks r =>
      obtain ⟨key, e1, e2⟩ : ∃ key, keyD k = some key ∧ y = kV key := by
        cases k with
        | int i => cases rk.intOf; exact ⟨.inl i, rfl, rfl⟩
        | str i => cases rk.strOf; exact ⟨.inr i, rfl, rfl⟩
        | _ => exact absurd hk (by simp [isKey])
      subst e2
      have rks' : keysD ks = some (kvs.map (·.1)) := keysD_of (by rw [List.map_map]; exact rks)
      obtain ⟨f1, f2⟩ := find_K e1 rks'
      refine ⟨valV kvs key, .inl ⟨kvs, key, h, rfl, rfl⟩, f1, fun j hj => ?_⟩
      obtain ⟨v, q1, q2⟩ := f2 j hj
      have hl := r.length
      have hj' := (List.getElem?_eq_some_iff.mp q1).1
      obtain ⟨v', q3, q4⟩ := r.get (i := j) (List.getElem?_eq_getElem (by omega))
      rw [q1] at q3; cases q3
      exact ⟨_, v, List.getElem?_eq_getElem (by omega), q2, q4⟩
    | @t a kvs ks vs h rks r =>
      obtain ⟨d, ds, rfl, hs⟩ : ∃ d ds, k = .tup (d :: ds) ∧ (d :: ds).all isStrD = true := by
        cases k with
        | tup xs =>
          cases xs with
          | nil => exact absurd hk (by simp [isKey])
          | cons d ds => exact ⟨d, ds, rfl, hk⟩
        | _ => exact absurd hk (by simp [isKey])
      obtain ⟨b, ws, rfl, hb, rs⟩ : ∃ b ws, y = .ref b ∧ H b = some (.tup ws) ∧ VRels X.K cad ι B H (d :: ds) ws := by
        generalize hg : (D.tup (d :: ds)) = g at rk
        cases rk with
        | tup h r => cases hg; exact ⟨_, _, rfl, h, r⟩
        | @ktup a ns h =>
          cases hg2 : ns with
          | nil => rw [hg2] at hg; cases hg
          | cons n ns' =>
            rw [hg2, List.map_cons] at hg
            injection hg with hg
            injection hg with h1 _
            subst h1
            simp [isStrD] at hs
        | _ => cases hg
      obtain ⟨key, e1, rfl⟩ := keysD_str rs hs
      have rks' : ks.map keysD = (kvs.map (·.1)).map some := keysDs_of (by rw [List.map_map]; exact rks)
      obtain ⟨f1, f2⟩ := find_T e1 rks'
      refine ⟨valV kvs key, .inr ⟨kvs, key, b, h, rfl, hb, rfl⟩, f1, fun j hj => ?_⟩
      obtain ⟨v, q1, q2⟩ := f2 j hj
      have hl := r.length
      have hj' := (List.getElem?_eq_some_iff.mp q1).1
      obtain ⟨v', q3, q4⟩ := r.get (i := j) (List.getElem?_eq_getElem (by omega))
      rw [q1] at q3; cases q3
      exact ⟨_, v, List.getElem?_eq_getElem (by omega), q2, q4⟩
  · cases e
def rDIn (neg : Bool) : R2 := fun y x H Q => ∃ a o, x = .ref a ∧ DGet H a y o ∧ Q (.bl (neg != o.isSome)) H
theorem op_dIn (hu : X.A.units + 1 < cLine) : OpR X (compareOp .In) (rDIn false) := by
  intro pins s σ H x y v u Q I rx ry h
  obtain ⟨a, o, rfl, g, q⟩ := h
  cases ry
  exact d_in hu I g rx fun s' I' => ⟨.bl o.isSome, H, I', rfl, by simpa using q⟩
theorem op_dNotIn (hu : X.A.units + 1 < cLine) : OpR X (compareOp .NotIn) (rDIn true) := by
  intro pins s σ H x y v u Q I rx ry h
  obtain ⟨a, o, rfl, g, q⟩ := h
  cases ry
  exact d_notIn hu I g rx fun s' I' => ⟨.bl (!o.isSome), H, I', rfl, by simpa using q⟩

def pyCmp : Cop → CmpOp
  | .eq => .Eq | .ne => .NotEq | .lt => .Lt | .le => .LtE | .gt => .Gt | .ge => .GtE | .isN => .Is | .notN => .IsNot | .inn => .In | .notIn => .NotIn

theorem nonOf_rb {d : D} {v : V} (r : VRel X.K cad ι B H d v) : decide (v = .non) = match d with | .non => true | _ => false := by
  cases r <;> rfl

theorem cop_ok {op : Cop} {x y d : D} {v u : V} (hu : X.A.units + 65 < cLine) (sim : Sim X.K cad ι B H S) (rx : VRel X.K cad ι B H x v) (ry : VRel X.K cad ι B H y u) (h : cop op x y S = .ok d S') (q : OkQ X.K cad ι B H Q d S') :
    oSem X (compareOp (pyCmp op)) v u H Q := by
  have hu' : X.A.units + 64 < cLine := by omega
  unfold cop at h
  split at h
  · cases rx.intOf; cases ry.intOf; cases h
    exact oSem.of op_lt ⟨_, _, rfl, rfl, fun _ => q ι _ H .refl sim (.bl _)⟩
  · cases rx.intOf; cases ry.intOf; cases h
    exact oSem.of op_le ⟨_, _, rfl, rfl, fun _ => q ι _ H .refl sim (.bl _)⟩
  · cases rx.intOf; cases ry.intOf; cases h
    exact oSem.of op_gt ⟨_, _, rfl, rfl, fun _ => q ι _ H .refl sim (.bl _)⟩
  · cases rx.intOf; cases ry.intOf; cases h
    exact oSem.of op_ge ⟨_, _, rfl, rfl, fun _ => q ι _ H .refl sim (.bl _)⟩
  · cases rx.nonOf; cases ry.nonOf; cases h
    exact oSem.of op_isN ⟨rfl, fun _ => q ι _ H .refl sim (.bl _)⟩
  · rename_i hne
    cases ry.nonOf; cases h
    refine oSem.of op_isN ⟨rfl, fun _ => ?_⟩
    rw [nonOf_rb rx]
    cases x <;> first | exact q ι _ H .refl sim (.bl _) | exact (hne rfl).elim
  · cases rx.nonOf; cases ry.nonOf; cases h
    exact oSem.of op_notN ⟨rfl, fun _ => q ι _ H .refl sim (.bl _)⟩
  · rename_i hne
    cases ry.nonOf; cases h
    refine oSem.of op_notN ⟨rfl, fun _ => ?_⟩
    rw [nonOf_rb rx]
    cases x <;> first | exact q ι _ H .refl sim (.bl _) | exact (hne rfl).elim
  · split at h
    · rename_i b e
      cases h
      obtain ⟨h1, h2, h3⟩ := deq_some e
      obtain ⟨p1, s1⟩ := rbd_dp sim h1 rx
      obtain ⟨p2, s2⟩ := rbd_dp sim h2 ry
      refine oSem.of (op_eqD hu') ⟨_, _, p1, p2, s1, s2, fun _ => ?_⟩
      rw [deq_eqv _ _ _ _ h1 h2, ← h3]
      exact q ι _ H .refl sim (.bl _)
    · cases h
  · split at h
    · rename_i b e
      cases h
      obtain ⟨h1, h2, h3⟩ := deq_some e
      obtain ⟨p1, s1⟩ := rbd_dp sim h1 rx
      obtain ⟨p2, s2⟩ := rbd_dp sim h2 ry
      refine oSem.of (op_neD hu') ⟨_, _, p1, p2, s1, s2, fun _ => ?_⟩
      rw [deq_eqv _ _ _ _ h1 h2, ← h3]
      exact q ι _ H .refl sim (.bl _)
    · cases h
  · split at h
    · rename_i ys ey
      split at h
      · rename_i b e
        cases h
        unfold inD at e
        split at e
        · rename_i hd
          cases e
          rw [Bool.and_eq_true] at hd
          obtain ⟨p1, s1⟩ := rbd_dp sim hd.1 rx
          obtain ⟨p2, s2⟩ := rbd_dpL sim ry ey hd.2
          refine oSem.of (op_inD hu) ⟨_, _, p1, p2, s1, s2, fun _ => ?_⟩
          rw [toPys_any _ _ _ _ hd.1 hd.2]
          exact q ι _ H .refl sim (.bl _)
        · cases e
      · cases h
    · split at h
      · rename_i tk ks vs ey
        split at h
        · rename_i b e
          cases h
          obtain ⟨a, rfl, fd⟩ := rb_fd sim ry ey
          obtain ⟨r, g, n1, n2⟩ := fd_get fd rx e
          refine oSem.of (op_dIn (by omega)) ⟨a, r, rfl, g, fun _ => ?_⟩
          have : b.isSome = r.isSome := by
            cases b with
            | none => rw [n1 rfl]; rfl
            | some j => obtain ⟨_, v, _, e, _⟩ := n2 j rfl; rw [e]; rfl
          rw [← this]
          exact q ι _ H .refl sim (by simpa using .bl _)
        · cases h
      · cases h
  · split at h
    · rename_i ys ey
      split at h
      · rename_i b e
        cases h
        unfold inD at e
        split at e
        · rename_i hd
          cases e
          rw [Bool.and_eq_true] at hd
          obtain ⟨p1, s1⟩ := rbd_dp sim hd.1 rx
          obtain ⟨p2, s2⟩ := rbd_dpL sim ry ey hd.2
          refine oSem.of (op_notInD hu) ⟨_, _, p1, p2, s1, s2, fun _ => ?_⟩
          rw [toPys_any _ _ _ _ hd.1 hd.2]
          exact q ι _ H .refl sim (.bl _)
        · cases e
      · cases h
    · split at h
      · rename_i tk ks vs ey
        split at h
        · rename_i b e
          cases h
          obtain ⟨a, rfl, fd⟩ := rb_fd sim ry ey
          obtain ⟨r, g, n1, n2⟩ := fd_get fd rx e
          refine oSem.of (op_dNotIn (by omega)) ⟨a, r, rfl, g, fun _ => ?_⟩
          have : b.isSome = r.isSome := by
            cases b with
            | none => rw [n1 rfl]; rfl
            | some j => obtain ⟨_, v, _, e, _⟩ := n2 j rfl; rw [e]; rfl
          rw [← this]
          exact q ι _ H .refl sim (by simpa using .bl _)
        · cases h
      · cases h
  · cases h
theorem cop_noexc {op : Cop} {x y : D} : NoExc (cop op x y S) := by
  unfold cop
  repeat' split
  all_goals first | exact noexc_ok | exact noexc_no
end
end E1

set_option maxHeartbeats 1000000
/-! E1: built-in functions, subscripts, slices, attributes. -/
namespace E1
open PySem PySem.Spec PyProof.Rows L2

section
variable {X : Cx} {cad : String → Option Addr} {ι : List Addr} {B : Addr → Prop} {H : Hp} {S S' : Store} {Q : VK} {a b : Expr} {pos : Pos}

/-! ### x[i] -/
def xSem (X : Cx) (a b : Expr) : R2 := fun x y H Q => ∀ (pins : List (Addr × Obj)) (s : Shared) (σ : L2.St) (v u : Value), Inv X pins σ H s → RelV x v → RelV y u →
  wpAny (model X.prog X.w) X.A (subscriptTail a b v u) (EP X pins σ Q) X.xe s
theorem pe_sub : PE X (.Subscript a b pos) (tOp (xSem X a b) (tSem X a) (tSem X b)) :=
  ⟨fun pins s σ H Q I h => Subscript_ (binT pe_sem pe_sem I h fun v u s2 x y H2 I2 rx ry q => q pins s2 σ v u I2 rx ry)⟩
theorem xSem.of {r : R2} {x y : V} (hr : IxR X r) (hs : PlainIx b) (q : r x y H (fun v H' => NK X.K H' → Q v H')) : xSem X a b x y H Q := fun pins s σ v u I rx ry =>
  thn (hr a b pins s σ H x y v u _ I rx ry q (hs _ _)) fun _ _ q => EP.nk q
def rIxD : R2 := fun x y H Q => ∃ a v, x = .ref a ∧ DGet H a y (some v) ∧ Q v H
theorem ix_dict (hu : X.A.units + 1 < cLine) : IxR X rIxD := by
  intro value slice pins s σ H x y v u Q I rx ry h hs
  obtain ⟨a, w, rfl, g, q⟩ := h
  cases rx
  exact tail_any (dict_typeIs I g) PySem.F.slot_dict_getitem.lookup (d_getItem hu I g ry fun w' s3 I3 rw' => ⟨w, H, I3, rw', q⟩) hs

theorem ixN_eq (n : Nat) (i : Int) : ixN n i = L2.ixN n i := rfl
theorem at_get {xs : List D} {vs : List V} {i : Int} {d : D} (r : VRels X.K cad ι B H xs vs) (h : at? xs i = some d) : ∃ v, atI vs i = some v ∧ VRel X.K cad ι B H d v := by
  unfold at? at h
  unfold atI
  rw [r.length] at h
  cases e : ixN vs.length i with
  | none => rw [e] at h; cases h
  | some j =>
    rw [e] at h
    obtain ⟨v, h1, h2⟩ := r.get (i := j) (d := d) h
    rw [← ixN_eq, e]
    exact ⟨v, h1, h2⟩
theorem rbl_str (sim : Sim X.K cad ι B H S) {d : D} {v : V} {x : Str} (r : VRel X.K cad ι B H d v) (h : rbl S d = .str x) : v = .str x ∧ PyData.strOk x = true := by
  unfold rbl at h
  split at h
  · cases h
  · have q := (rb_scal (S := S) r).2.2.1 x h
    subst q
    refine ⟨rfl, ?_⟩
    cases r; assumption
theorem rbl_fd (sim : Sim X.K cad ι B H S) {d : D} {v : V} {tk : Bool} {ks vs : List D} (r : VRel X.K cad ι B H d v) (h : rbl S d = .fd tk ks vs) : ∃ a, v = .ref a ∧ FdR X.K cad ι B H tk ks vs a := by
  unfold rbl at h
  split at h
  · cases h
  · exact rb_fd sim r h
theorem strOk_of {x y : Str} (h : PyData.strOk x = true) (g : ∀ c ∈ y.cps, c ∈ x.cps) : PyData.strOk y = true := by
  unfold PyData.strOk at *
  rw [Array.all_eq_true'] at *
  exact fun c hc => h c (g c hc)
theorem sub_ok {x y d : D} {v u : V} (hs : PlainIx b) (hu : X.A.units + 1 < cLine) (sim : Sim X.K cad ι B H S) (rx : VRel X.K cad ι B H x v) (ry : VRel X.K cad ι B H y u) (h : asE S (subF S x y) = .ok d S') (q : OkQ X.K cad ι B H Q d S') :
    xSem X a b v u H Q := by
  have h' : subF S x y = some d ∧ S' = S := by
    cases e : subF S x y with
    | none => rw [e] at h; cases h
    | some d' => rw [e] at h; cases h; exact ⟨rfl, rfl⟩
  clear h
  obtain ⟨h, rfl⟩ := h'
  unfold subF at h
  split at h
  · rename_i xs i e
    obtain ⟨p, vs, rfl, s1, r1⟩ := rbl_fl sim rx e
    cases ry.intOf
    obtain ⟨w, h1, h2⟩ := at_get r1 h
    exact xSem.of ix_list hs ⟨p, vs, i, w, rfl, rfl, s1, h1, fun _ => q ι _ H .refl sim h2⟩
  · rename_i xs i e
    obtain ⟨p, vs, rfl, s1, r1⟩ := rbl_tup sim rx e
    cases ry.intOf
    obtain ⟨w, h1, h2⟩ := at_get r1 h
    exact xSem.of ix_tup hs ⟨p, vs, i, w, rfl, rfl, s1, h1, fun _ => q ι _ H .refl sim h2⟩
  · rename_i z i e
    obtain ⟨rfl, ok⟩ := rbl_str sim rx e
    cases ry.intOf
    split at h
    · rename_i hz
      obtain ⟨w, e2, rfl⟩ := Option.map_eq_some_iff.mp h
      unfold strAt? at e2
      cases e3 : ixN z.length i with
      | none => rw [e3] at e2; cases e2
      | some j =>
        rw [e3] at e2
        obtain ⟨c, e4, rfl⟩ := Option.map_eq_some_iff.mp e2
        have hl : z.cps.toList.length = z.length := by simp [Str.length]
        refine xSem.of ix_str hs ⟨z, i, c, rfl, rfl, hz, ?_, fun _ => q ι _ H .refl sim (.str _ (strOk_of ok ?_))⟩
        · unfold atI
          rw [hl, ← ixN_eq, e3]
          simpa using e4
        · intro k hk
          simp at hk
          subst hk
          exact Array.mem_of_getElem? e4
    · cases h
  · rename_i tk ks vs k _ e
    obtain ⟨p, rfl, fd⟩ := rbl_fd sim rx e
    split at h
    · rename_i j ek
      obtain ⟨r, g, n1, n2⟩ := fd_get fd ry ek
      obtain ⟨d', w, e5, rfl, e7⟩ := n2 j rfl
      rw [h] at e5; cases e5
      exact xSem.of (ix_dict hu) hs ⟨p, w, rfl, g, fun _ => q ι _ H .refl sim e7⟩
    · cases h
  · cases h
theorem asE_noexc {α : Type} {o : Option α} : NoExc (asE S o) := by
  cases o with
  | none => exact noexc_no
  | some _ => exact noexc_ok

/-! ### x[lo:hi] -/
def slSem (X : Cx) : V → Option Int → Option Int → Hp → VK → Prop := fun x lo hi H Q =>
  ∀ (pins : List (Addr × Obj)) (s : Shared) (σ : L2.St) (v vl vu : Value) (sl : Addr), Inv X pins σ H s → RelV x v → s.heap.IsSliceOf sl vl vu .none → IsPart vl lo → IsPart vu hi →
    ∃ T id, typeLookup (.type T) "__getitem__" = pure (some (.builtin id)) ∧ s.TypeIs v T ∧ wpAny (model X.prog X.w) X.A (getItem v (.ref sl)) (EP X pins σ Q) X.xe s
theorem sl_sem : SlR X (slSem X) := fun pins s σ H x v vl vu lo hi sl Q I rx hs pl pu h => h pins s σ v vl vu sl I rx hs pl pu
theorem slSem.of {r : V → Option Int → Option Int → Hp → VK → Prop} {x : V} {lo hi : Option Int} (hr : SlR X r) (q : r x lo hi H (fun v H' => NK X.K H' → Q v H')) : slSem X x lo hi H Q := fun pins s σ v vl vu sl I rx hs pl pu => by
  obtain ⟨T, id, h1, h2, h3⟩ := hr pins s σ H x v vl vu lo hi sl _ I rx hs pl pu q
  exact ⟨T, id, h1, h2, thn h3 fun _ _ q => EP.nk q⟩
theorem vrels_cut {xs : List D} {vs : List V} (r : VRels X.K cad ι B H xs vs) (lo hi : Option Int) : VRels X.K cad ι B H (cut xs lo hi) (cutV vs lo hi) := by
  have e : cut xs lo hi = (xs.drop (HT.sIx xs.length 0 lo)).take (HT.sIx xs.length xs.length hi - HT.sIx xs.length 0 lo) := by
    unfold E1.cut
    cases lo <;> cases hi <;> rfl
  rw [e, r.length]
  exact (r.drop _).take _
theorem sIx_eq (n d : Nat) (o : Option Int) : cut1 n d o = HT.sIx n d o := by cases o <;> rfl
def slcF (box : Bool) (x : D) (l h : Option Int) (S : Store) : R D := match rbl S x with
    | .fl xs => alloc box (cut xs l h) S
    | .str z => if z.length ≤ LINE then .ok (.str (strCut z l h)) S else .no
    | .tup xs => if (cut xs l h).length < xs.length then .ok (.tup (cut xs l h)) S else .no
    | _ => .no
theorem slcF_noexc {box : Bool} {x : D} {l h : Option Int} : NoExc (slcF box x l h S) := by
  unfold slcF
  split
  · exact alloc_noexc
  · split <;> first | exact noexc_ok | exact noexc_no
  · split <;> first | exact noexc_ok | exact noexc_no
  · exact noexc_no
theorem slc_ok {box : Bool} {x d : D} {v : V} {lo hi : Option Int} (sim : Sim X.K cad ι B H S) (rx : VRel X.K cad ι B H x v) (h : slcF box x lo hi S = .ok d S') (q : OkQ X.K cad ι B H Q d S') : slSem X v lo hi H Q := by
  unfold slcF at h
  split at h
  · rename_i xs e
    obtain ⟨p, vs, rfl, s1, r1⟩ := rbl_fl sim rx e
    obtain ⟨hz, hq⟩ := alloc_ok sim (vrels_cut r1 lo hi) h q
    exact slSem.of sl_list ⟨p, vs, rfl, s1, fun p hp nk => hq p hp nk⟩
  · rename_i z e
    obtain ⟨rfl, ok⟩ := rbl_str sim rx e
    split at h
    · rename_i hz
      cases h
      refine slSem.of sl_str ⟨z, rfl, hz, fun _ => ?_⟩
      have e2 : cutS z lo hi = strCut z lo hi := by
        have hl : z.cps.toList.length = z.length := by simp [Str.length]
        unfold cutS strCut cut
        rw [hl, ← sIx_eq, ← sIx_eq]
      rw [e2]
      refine q ι _ H .refl sim (.str _ (strOk_of ok fun c hc => ?_))
      have hc' : c ∈ cut z.cps.toList lo hi := by simpa [strCut] using hc
      unfold cut at hc'
      exact Array.mem_toList_iff.mp (List.mem_of_mem_drop (List.mem_of_mem_take hc'))
    · cases h
  · rename_i xs e
    obtain ⟨p, vs, rfl, s1, r1⟩ := rbl_tup sim rx e
    split at h
    · rename_i hz
      cases h
      refine slSem.of sl_tup ⟨p, vs, rfl, s1, fun ⟨h1, h2⟩ => ?_, fun p hp nk => tup_ok sim (vrels_cut r1 lo hi) q p hp nk⟩
      have e1 := r1.length
      rw [(vrels_cut r1 lo hi).length] at hz
      unfold cutV at hz
      rw [h1, h2] at hz
      simp at hz
      omega
    · cases h
  · cases h

/-! ### a built-in function's answer -/
theorem vrels1 {d : D} {vs : List V} (r : VRels X.K cad ι B H [d] vs) : ∃ v, vs = [v] ∧ VRel X.K cad ι B H d v := by
  cases r with
  | cons h t => cases t; exact ⟨_, rfl, h⟩
theorem vrels2 {d e : D} {vs : List V} (r : VRels X.K cad ι B H [d, e] vs) : ∃ v w, vs = [v, w] ∧ VRel X.K cad ι B H d v ∧ VRel X.K cad ι B H e w := by
  cases r with
  | cons h t =>
    obtain ⟨w, rfl, h2⟩ := vrels1 t
    exact ⟨_, _, rfl, h, h2⟩
theorem ints_of : ∀ {xs : List D} {ns : List Int} {vs : List V}, ints? xs = some ns → VRels X.K cad ι B H xs vs → vs = ns.map V.int := by
  intro xs
  induction xs with
  | nil => intro ns vs h r; cases h; cases r; rfl
  | cons d xs ih =>
    intro ns vs h r
    cases r with
    | cons rh rt =>
      cases d with
      | int i =>
        obtain ⟨ms, e, rfl⟩ := Option.map_eq_some_iff.mp (show (ints? xs).map (i :: ·) = some ns from h)
        cases rh.intOf
        rw [ih e rt]; rfl
      | _ => cases h
theorem bls_of : ∀ {xs : List D} {ns : List Bool} {vs : List V}, bls? xs = some ns → VRels X.K cad ι B H xs vs → vs = ns.map V.bl := by
  intro xs
  induction xs with
  | nil => intro ns vs h r; cases h; cases r; rfl
  | cons d xs ih =>
    intro ns vs h r
    cases r with
    | cons rh rt =>
      cases d with
      | bl i =>
        obtain ⟨ms, e, rfl⟩ := Option.map_eq_some_iff.mp (show (bls? xs).map (i :: ·) = some ns from h)
        cases rh.blOf
        rw [ih e rt]; rfl
      | _ => cases h
def leS (a b : Str) : Prop := a.cps.toList ≤ b.cps.toList
theorem leS_trans {a b c : Str} (h : leS a b) (g : leS b c) : leS a c := List.le_trans h g
theorem leS_anti {a b : Str} (h : leS a b) (g : leS b a) : a = b := by
  have e := List.le_antisymm h g
  obtain ⟨⟨a⟩⟩ := a
  obtain ⟨⟨b⟩⟩ := b
  cases e; rfl
theorem leS_not {a b : Str} : ¬ a.cps.toList < b.cps.toList ↔ leS b a := List.not_lt
theorem leS_lt {a b : Str} (h : a.cps.toList < b.cps.toList) : leS a b := List.le_of_lt h
theorem rising_pw : ∀ {l : List Str} {p : Str}, risingS p l = true → (p :: l).Pairwise leS
  | [], p, _ => by simp
  | x :: r, p, h => by
    have h' : (!ltCps x.cps.toList p.cps.toList && risingS x r) = true := h
    rw [Bool.and_eq_true, ltCps_eq] at h'
    have h1 : leS p x := leS_not.mp (by simpa using h'.1)
    have h2 := rising_pw h'.2
    rw [List.pairwise_cons]
    refine ⟨fun y hy => ?_, h2⟩
    rcases List.mem_cons.mp hy with rfl | hy
    · exact h1
    · exact leS_trans h1 ((List.pairwise_cons.mp h2).1 y hy)
theorem sortedS_pw {l : List Str} (h : sortedS l = true) : l.Pairwise leS := by
  cases l with
  | nil => simp
  | cons x r => exact rising_pw h
theorem insS_perm (x : Str) : ∀ ys : List Str, (insS x ys).Perm (x :: ys)
  | [] => .refl _
  | y :: ys => by
    unfold insS
    split
    · exact ((insS_perm x ys).cons y).trans (.swap x y ys)
    · exact .refl _
theorem srtS_perm : ∀ xs : List Str, (srtS xs).Perm xs
  | [] => .refl _
  | x :: xs => (insS_perm x (srtS xs)).trans ((srtS_perm xs).cons x)
theorem insS_pw (x : Str) : ∀ {ys : List Str}, ys.Pairwise leS → (insS x ys).Pairwise leS
  | [], _ => by simp [insS]
  | y :: ys, h => by
    rw [List.pairwise_cons] at h
    unfold insS
    split
    · rename_i hlt
      rw [List.pairwise_cons]
      refine ⟨fun z hz => ?_, insS_pw x h.2⟩
      rcases List.mem_cons.mp ((insS_perm x ys).mem_iff.mp hz) with rfl | hz
      · exact leS_lt hlt
      · exact h.1 z hz
    · rename_i hlt
      rw [List.pairwise_cons, List.pairwise_cons]
      have h1 : leS x y := leS_not.mp hlt
      refine ⟨fun z hz => ?_, h⟩
      rcases List.mem_cons.mp hz with rfl | hz
      · exact h1
      · exact leS_trans h1 (h.1 z hz)
theorem srtS_pw : ∀ xs : List Str, (srtS xs).Pairwise leS
  | [] => by simp [srtS]
  | x :: xs => insS_pw x (srtS_pw xs)
theorem srtS_one {xs ys : List Str} (hp : ys.Perm xs) (hs : sortedS ys = true) : ys = srtS xs :=
  (hp.trans (srtS_perm xs).symm).eq_of_pairwise (fun a b _ _ h g => leS_anti h g) (sortedS_pw hs) (srtS_pw xs)
theorem strs_of : ∀ {xs : List D} {ns : List Str} {vs : List V}, strs? xs = some ns → VRels X.K cad ι B H xs vs → vs = ns.map V.str ∧ ∀ s ∈ ns, PyData.strOk s = true := by
  intro xs
  induction xs with
  | nil => intro ns vs h r; cases h; cases r; exact ⟨rfl, fun _ h => by cases h⟩
  | cons d xs ih =>
    intro ns vs h r
    cases r with
    | cons rh rt =>
      cases d with
      | str i =>
        obtain ⟨ms, e, rfl⟩ := Option.map_eq_some_iff.mp (show (strs? xs).map (i :: ·) = some ns from h)
        obtain ⟨h1, h2⟩ := ih e rt
        cases rh with
        | str _ ok =>
          exact ⟨by rw [h1]; rfl, fun s hs => by
            rcases List.mem_cons.mp hs with rfl | hs
            · exact ok
            · exact h2 s hs⟩
      | _ => cases h
theorem strs_vrels : ∀ {ss : List Str}, (∀ s ∈ ss, PyData.strOk s = true) → VRels X.K cad ι B H (ss.map .str) (ss.map V.str)
  | [], _ => .nil
  | s :: ss, h => .cons (.str s (h s (by simp))) (strs_vrels fun t ht => h t (List.mem_cons_of_mem _ ht))
def bltV : Blt → Value
  | .len => .builtin "len" | .abs => .builtin "abs" | .min2 => .builtin "min" | .max2 => .builtin "max" | .sum => .builtin "sum" | .list _ => .type "list" | .tuple => .type "tuple"
  | .int => .type "int" | .str => .type "str" | .all => .builtin "all" | .any => .builtin "any" | .sorted _ => .builtin "sorted"
theorem call_lenDT : CallR X (.builtin "len") (fun xs H Q => ∃ a kvs, xs = [.ref a] ∧ Rd H a (.dT kvs) ∧ Q (.int kvs.length) H) := by
  intro pins s σ H xs us Q I r h
  obtain ⟨a, kvs, rfl, e, q⟩ := h
  obtain ⟨u, rfl, rx⟩ := vals1 r
  cases rx
  obtain ⟨z, hd, ys, rel, dd⟩ := dt_rd I.hok e
  have hl := Paired.length rel
  have hn := line63
  exact call_len_dictH hd dd (by omega) ⟨.int kvs.length, H, I.tok _, ⟨_, by rw [hl]⟩, q⟩
theorem call_lenD : CallR X (.builtin "len") (fun xs H Q => ∃ a kvs, xs = [.ref a] ∧ Rd H a (.dK kvs) ∧ Q (.int kvs.length) H) := by
  intro pins s σ H xs us Q I r h
  obtain ⟨a, kvs, rfl, e, q⟩ := h
  obtain ⟨u, rfl, rx⟩ := vals1 r
  cases rx
  exact d_len I e fun t s' I' => ⟨.int kvs.length, H, I', ⟨_, rfl⟩, q⟩
theorem blt_ok {f : Blt} {xs : List D} {d : D} {vs : List V} (hc : X.calm = true) (sim : Sim X.K cad ι B H S) (r : VRels X.K cad ι B H xs vs) (h : blt f xs S = .ok d S') (q : OkQ X.K cad ι B H Q d S') : cSem X (bltV f) vs H Q := by
  unfold blt at h
  split at h
  · obtain ⟨v, rfl, rx⟩ := vrels1 r
    cases rx.strOf
    split at h
    · rename_i hz
      cases h
      exact cSem.of call_len ⟨_, _, rfl, ⟨hz, rfl⟩, fun _ => q ι _ H .refl sim (.int _)⟩
    · cases h
  · obtain ⟨v, rfl, rx⟩ := vrels1 r
    split at h
    · rename_i ys e
      cases h
      obtain ⟨p, ws, rfl, s1, r1⟩ := rbl_fl sim rx e
      refine cSem.of call_len ⟨_, _, rfl, .inl ⟨ws, s1, rfl⟩, fun _ => ?_⟩
      rw [← r1.length]
      exact q ι _ H .refl sim (.int _)
    · rename_i ys e
      cases h
      obtain ⟨p, ws, rfl, s1, r1⟩ := rbl_tup sim rx e
      refine cSem.of call_len ⟨_, _, rfl, .inr ⟨ws, s1, rfl⟩, fun _ => ?_⟩
      rw [← r1.length]
      exact q ι _ H .refl sim (.int _)
    · rename_i tk ks ws e
      cases h
      obtain ⟨p, rfl, fd⟩ := rbl_fd sim rx e
      cases fd with
      | k g rk rr =>
        refine cSem.of call_lenD ⟨p, _, rfl, g, fun _ => ?_⟩
        have e1 := rr.length
        rw [List.length_map] at e1
        rw [← e1]
        exact q ι _ H .refl sim (.int _)
      | t g rk rr =>
        refine cSem.of call_lenDT ⟨p, _, rfl, g, fun _ => ?_⟩
        have e1 := rr.length
        rw [List.length_map] at e1
        rw [← e1]
        exact q ι _ H .refl sim (.int _)
    · cases h
  · obtain ⟨v, rfl, rx⟩ := vrels1 r
    cases rx.intOf; cases h
    exact cSem.of call_abs ⟨_, rfl, fun _ => q ι _ H .refl sim (.int _)⟩
  · obtain ⟨v, w, rfl, rx, ry⟩ := vrels2 r
    cases rx.intOf; cases ry.intOf; cases h
    exact cSem.of (call_min2 hc) ⟨_, _, rfl, fun _ => q ι _ H .refl sim (.int _)⟩
  · obtain ⟨v, w, rfl, rx, ry⟩ := vrels2 r
    cases rx.intOf; cases ry.intOf; cases h
    exact cSem.of (call_max2 hc) ⟨_, _, rfl, fun _ => q ι _ H .refl sim (.int _)⟩
  · obtain ⟨v, rfl, rx⟩ := vrels1 r
    split at h
    · rename_i ys e
      split at h
      · rename_i ns e2
        cases h
        obtain ⟨p, ws, rfl, s1, r1⟩ := list_of sim rx e
        cases ints_of e2 r1
        exact cSem.of (cr_sum hc) ⟨p, ns, rfl, s1, fun _ => q ι _ H .refl sim (.int _)⟩
      · cases h
    · cases h
  · obtain ⟨v, rfl, rx⟩ := vrels1 r
    split at h
    · rename_i ys e
      obtain ⟨p, ws, rfl, s1, r1⟩ := seq_of sim rx e
      obtain ⟨hz, hq⟩ := alloc_ok sim r1 h q
      exact cSem.of call_list_of ⟨p, ws, rfl, s1, fun p hp nk => hq p hp nk⟩
    · cases h
  · obtain ⟨v, rfl, rx⟩ := vrels1 r
    split at h
    · rename_i ys e
      cases h
      obtain ⟨p, ws, rfl, s1, r1⟩ := list_of sim rx e
      exact cSem.of call_tuple_of ⟨p, ws, rfl, .inl ⟨s1, fun l hl nk => tup_ok sim r1 q l hl nk⟩⟩
    · cases h
  · obtain ⟨v, rfl, rx⟩ := vrels1 r
    cases rx.intOf; cases h
    exact cSem.of call_int1 (.inl ⟨_, rfl, fun _ => q ι _ H .refl sim (.int _)⟩)
  · obtain ⟨v, rfl, rx⟩ := vrels1 r
    cases rx.blOf; cases h
    exact cSem.of call_int1 (.inr ⟨_, rfl, fun _ => q ι _ H .refl sim (.int _)⟩)
  · obtain ⟨v, rfl, rx⟩ := vrels1 r
    split at h
    · rename_i ys e
      split at h
      · rename_i ns e2
        cases h
        obtain ⟨p, ws, rfl, s1, r1⟩ := list_of sim rx e
        cases bls_of e2 r1
        exact cSem.of (cr_all hc) ⟨p, ns, rfl, s1, fun _ => q ι _ H .refl sim (.bl _)⟩
      · cases h
    · cases h
  · obtain ⟨v, rfl, rx⟩ := vrels1 r
    split at h
    · rename_i ys e
      split at h
      · rename_i ns e2
        cases h
        obtain ⟨p, ws, rfl, s1, r1⟩ := list_of sim rx e
        cases bls_of e2 r1
        exact cSem.of (cr_any hc) ⟨p, ns, rfl, s1, fun _ => q ι _ H .refl sim (.bl _)⟩
      · cases h
    · cases h
  · obtain ⟨v, rfl, rx⟩ := vrels1 r
    split at h
    · rename_i ys e
      split at h
      · rename_i ss e2
        split at h
        · rename_i h64
          obtain ⟨p, ws, rfl, s1, r1⟩ := list_of sim rx e
          obtain ⟨rfl, ok⟩ := strs_of e2 r1
          obtain ⟨hz, hq⟩ := alloc_ok sim (strs_vrels fun s hs => ok s ((srtS_perm ss).mem_iff.mp hs)) h q
          exact cSem.of cr_sortedS ⟨p, ss, rfl, s1, h64, fun ys p' hp hs hh nk => by rw [srtS_one hp hs]; exact hq p' hh nk⟩
        · cases h
      · cases h
    · cases h
  · cases h

/-! ### attributes -/
theorem lookF_get {f : String} (inj : ∀ x y : String, Str.ofString x = Str.ofString y → x = y) : ∀ {ns : List String} {ds : List D} {fs : List (Str × V)} {d : D}, lookF f ns ds = some d → fs.map (·.1) = ns.map Str.ofString → VRels X.K cad ι B H ds (fs.map (·.2)) →
    ∃ v, fs.lookup (Str.ofString f) = some v ∧ VRel X.K cad ι B H d v := by
  intro ns
  induction ns with
  | nil => intro ds fs d h; cases ds <;> cases h
  | cons n ns ih =>
    intro ds fs d h hn r
    cases ds with
    | nil => cases h
    | cons e ds =>
      cases fs with
      | nil => cases hn
      | cons p fs =>
        obtain ⟨k, v⟩ := p
        simp only [List.map_cons, List.cons.injEq] at hn
        obtain ⟨h1, h2⟩ := hn
        simp only [List.map_cons] at r
        cases r with
        | cons rh rt =>
          simp only [lookF] at h
          by_cases e : n = f
          · rw [if_pos e] at h
            cases h
            subst e
            exact ⟨v, by rw [List.lookup_cons, h1]; simp, rh⟩
          · rw [if_neg e] at h
            obtain ⟨w, q1, q2⟩ := ih h h2 rt
            refine ⟨w, ?_, q2⟩
            have : (Str.ofString f == k) = false := by
              rw [h1]
              exact beq_eq_false_iff_ne.mpr fun z => e (inj _ _ z.symm)
            rw [List.lookup_cons, this]
            exact q1
theorem toNat_inj : ∀ {a b : List Char}, a.map Char.toNat = b.map Char.toNat → a = b
  | [], [], _ => rfl
  | [], _ :: _, h => by cases h
  | _ :: _, [], h => by cases h
  | x :: a, y :: b, h => by
    simp only [List.map_cons, List.cons.injEq] at h
    rw [toNat_inj h.2, Char.toNat_inj.mp h.1]
theorem ofString_inj (x y : String) (h : Str.ofString x = Str.ofString y) : x = y := by
  unfold Str.ofString at h
  rw [cpsOfBytes_string, cpsOfBytes_string] at h
  have h1 : x.toList.map Char.toNat = y.toList.map Char.toNat := by
    have := congrArg (fun z => z.cps.toList) h
    simpa using this
  exact String.toList_injective (toNat_inj h1)
end
end E1

set_option maxHeartbeats 1000000
/-! E1: calls. -/
namespace E1
open PySem PySem.Spec PyProof.Rows L2

/-! ### what a def promises -/
def spR (K : Frag) (cad : String → Option Addr) (r : List D → Store → R D) : Sp := fun vs H Q E => ∃ (B : Addr → Prop) (ι : List Addr) (ws : List D) (S : Store),
  Sim K cad ι B H S ∧ VRels K cad ι B H ws vs ∧ Post (r ws S) (OkQ K cad ι B H Q) (ExQ K cad ι B H E)

structure FnAt (X : Cx) (cad : String → Option Addr) (n : Nat) (r : List D → Store → R D) (fa : Addr) : Prop where
  ok : ∃ (fd : FuncData) (ps : List Str), FnOk X.prog X.w X.K X.mg X.base (L2.CX X.prog X.w) n fa fd ps (spR X.K cad r) ∧ Binds X.K fd ps []

section
variable {X : Cx} {cad : String → Option Addr} {W : WX} {ι : List Addr} {B : Addr → Prop} {H : Hp} {S S' : Store} {Q : VK} {σ : L2.St}
def cSemS (X : Cx) (f : Value) (σ : L2.St) : List V → Hp → VK → Prop := fun xs H Q => ∀ (pins : List (Addr × Obj)) (s : Shared) (us : List Value), Inv X pins σ H s → Vals xs us → wpAny (model X.prog X.w) X.A (PySem.call f us) (EP X pins σ Q) X.xe s

theorem call_fnat {n : Nat} {r : List D → Store → R D} {fa : Addr} (F : FnAt X cad n r fa) (hr : Room n X.A) (tk : Takes X W) {ws : List D} {vs : List V} (sim : Sim X.K cad ι B H S) (rv : VRels X.K cad ι B H ws vs)
    (h : Post (r ws S) (OkQ X.K cad ι B H Q) (ExQ X.K cad ι B H fun c d H' => W c d σ H')) : cSemS X (.ref fa) σ vs H Q := fun pins s us I rx => by
  obtain ⟨fd, ps, F, hb⟩ := F.ok
  refine thn (run_fnSD (E := fun σ => WE W σ) (dvs := []) (Q := fun v H' => NK X.K H' → Q v H') F hr hb .nil (passAt tk σ) I rx ?_) fun _ _ q => EP.nk q
  rw [List.append_nil]
  refine ⟨B, ι, ws, S, sim, rv, h.imp (fun d S' q => ?_) fun x S' q => q⟩
  intro ι' v H' s' sim' r' _
  exact q ι' v H' s' sim' r'

theorem Sim.still (sim : Sim X.K cad ι B H S) {H' : Hp} (k : ∀ a o, H a = some o → H' a = some o) (nk : NK X.K H') : Sim X.K cad ι B H' S ∧ Step X.K ι H ι H' := by
  have st : Step X.K ι H ι H' := ⟨⟨[], by simp⟩, fun a o h _ => k a o h, fun _ h n => absurd h n, fun a h => by
    cases e : H a with
    | none => exact absurd e h
    | some o => rw [k a o e]; simp⟩
  refine ⟨⟨sim.nd, sim.len, fun i c a h1 h2 => ?_, fun a h => st.there a (sim.occ a h), sim.dis, nk⟩, st⟩
  obtain ⟨o, ho, _⟩ := sim.kind (List.mem_of_getElem? h2)
  exact (sim.cell i c a h1 h2).mono sim st (by rw [k a o ho, ho])
theorem Sim.nil (nk : NK X.K H) (occ : ∀ a, B a → H a ≠ none) : Sim X.K cad [] B H [] := ⟨List.nodup_nil, rfl, fun i c a h => (by cases h), occ, fun a h => (by cases h), nk⟩
theorem Sim.occι (sim : Sim X.K cad ι B H S) : ∀ a, (B a ∨ a ∈ ι) → H a ≠ none := fun a h => by
  rcases h with h | h
  · exact sim.occ a h
  · obtain ⟨o, ho, _⟩ := sim.kind h
    rw [ho]; simp

theorem rb_trees (sim : Sim X.K cad ι B H S) : ∀ {ws : List D} {vs : List V}, norefs (ws.map (rb S)) = true → VRels X.K cad ι B H ws vs → VRels X.K cad [] (fun _ => False) H (ws.map (rb S)) vs := by
  have hs : ∀ a : Addr, a ∉ ι → ¬ B a → a ∉ ([] : List Addr) ∧ ¬ False := fun a _ _ => ⟨by simp, fun z => z⟩
  intro ws
  induction ws with
  | nil => intro vs _ r; cases r; exact .nil
  | cons w ws ih =>
    intro vs n r
    simp only [List.map_cons, norefs, Bool.and_eq_true] at n
    cases r with
    | cons rh rt =>
      refine .cons ?_ (ih n.2 rt)
      have n1 := n.1
      by_cases hr : ∃ i, w = .ref i
      · obtain ⟨i, rfl⟩ := hr
        cases rh with
        | @ref i a hi =>
          cases e : S[i]? with
          | none => simp [rb, e, noref] at n1
          | some c =>
            have q := sim.cell i c a e hi
            cases q with
            | @lst a xs vs g r =>
              have e2 : rb S (.ref i) = .fl xs := by simp only [rb, e]
              rw [e2] at n1 ⊢
              exact .fl g (by simp) (fun z => z) (r.re hs (by simpa [noref] using n1))
            | @dicK a kvs ks vs g rk r =>
              have e2 : rb S (.ref i) = .fd false ks vs := by simp only [rb, e]
              rw [e2] at n1 ⊢
              simp only [noref, Bool.and_eq_true] at n1
              exact .fdK (.inl g) (by simp) (fun z => z) (rk.re hs n1.1) (r.re hs n1.2)
            | @dicT a kvs ks vs g rk r =>
              have e2 : rb S (.ref i) = .fd true (ks.map .tup) vs := by simp only [rb, e]
              rw [e2] at n1 ⊢
              simp only [noref, Bool.and_eq_true] at n1
              exact .fdT (.inl g) (by simp) (fun z => z) (rk.re hs n1.1) (r.re hs n1.2)
            | @ins a A dx fs C ns vs hC g hn hf r =>
              have e2 : rb S (.ref i) = .obj C ns vs := by simp only [rb, e]
              rw [e2] at n1 ⊢
              exact .obj hC g (by simp) (fun z => z) hn hf (r.re hs (by simpa [noref] using n1))
      · have e : rb S w = w := by
          cases w with
          | ref i => exact absurd ⟨i, rfl⟩ hr
          | _ => rfl
        rw [e] at n1 ⊢
        exact rh.re hs n1
theorem rb_noref : ∀ {ws : List D}, norefs ws = true → ws.map (rb S) = ws := by
  intro ws
  induction ws with
  | nil => intro _; rfl
  | cons w ws ih =>
    intro n
    simp only [norefs, Bool.and_eq_true] at n
    rw [List.map_cons, ih n.2]
    congr 1
    cases w with
    | ref i => simp [noref] at n
    | _ => rfl

theorem frzs_noref : ∀ {ws : List D}, norefs ws = true → ws.mapM (frz 6 S) = some ws := by
  intro ws
  induction ws with
  | nil => intro _; rfl
  | cons w ws ih =>
    intro n
    simp only [norefs, Bool.and_eq_true] at n
    have e : frz 6 S w = some w := by unfold frz; rw [if_pos n.1]
    simp only [List.mapM_cons, e, ih n.2, Option.bind_eq_bind, Option.bind_some, Option.pure_def]
theorem frz_rels {ι0 : List Addr} {B0 : Addr → Prop} (sim : Sim X.K cad ι B H S) (hs : ∀ a, a ∉ ι → ¬ B a → a ∉ ι0 ∧ ¬ B0 a) (hi : ∀ a, a ∈ ι → a ∉ ι0 ∧ ¬ B0 a) : ∀ {ws ws' : List D} {vs : List V}, ws.mapM (frz 6 S) = some ws' → VRels X.K cad ι B H ws vs → VRels X.K cad ι0 B0 H ws' vs := by
  intro ws
  induction ws with
  | nil => intro ws' vs h r; simp at h; subst h; cases r; exact .nil
  | cons w ws ih =>
    intro ws' vs h r
    cases r with
    | cons rh rt =>
      simp only [List.mapM_cons, Option.bind_eq_bind, Option.bind_eq_some_iff, Option.pure_def, Option.some.injEq] at h
      obtain ⟨y, h1, ys', h2, rfl⟩ := h
      exact .cons (frz_rel sim hs hi 6 h1 rh) (ih h2 rt)
theorem frzCall_ok {n : Nat} {C : Env} {f : String} {fa : Addr} (F : FnAt X cad n (C.call f) fa) (hr : Room n X.A) (tk : Takes X W) {ws : List D} {vs : List V} (sim : Sim X.K cad ι B H S) (rv : VRels X.K cad ι B H ws vs)
    (h : Post (frzCall C f ws S) (OkQ X.K cad ι B H Q) (ExQ X.K cad ι B H fun c d H' => W c d σ H')) : cSemS X (.ref fa) σ vs H Q := by
  unfold frzCall at h
  split at h
  · rename_i ws' hn
    -- what the callee may not touch
    obtain ⟨B', rv', hB, hocc⟩ : ∃ B' : Addr → Prop, VRels X.K cad [] B' H ws' vs ∧ (norefs ws = true → ∀ a, B' a ↔ (B a ∨ a ∈ ι)) ∧ ∀ a, B' a → H a ≠ none := by
      by_cases hw : norefs ws = true
      · refine ⟨fun a => B a ∨ a ∈ ι, ?_, fun _ a => Iff.rfl, sim.occι⟩
        rw [frzs_noref hw] at hn
        cases hn
        exact rv.re (fun a h1 h2 => ⟨by simp, fun z => z.elim h2 h1⟩) hw
      · exact ⟨fun _ => False, frz_rels sim (fun a _ _ => ⟨by simp, fun z => z⟩) (fun a _ => ⟨by simp, fun z => z⟩) hn rv, fun z => absurd z hw, fun _ z => z.elim⟩
    have sim0 : Sim X.K cad [] B' H [] := Sim.nil sim.nk hocc
    refine call_fnat (B := B') (ι := []) (S := []) F hr tk sim0 rv' ?_
    cases e : C.call f ws' [] with
    | no => rw [e] at h; exact h.elim
    | exc x S1 =>
      rw [e] at h
      dsimp only at h
      split at h
      · rename_i hx
        intro ι' cls dd H' st sim' hex
        obtain ⟨sim2, st2⟩ := sim.still (fun a o q => st.keep a o q (by simp)) sim'.nk
        refine h ι cls dd H' st2 sim2 ?_
        obtain ⟨A, h1, h2, hxc, h3⟩ := hex
        refine ⟨A, h1, h2, hxc, ?_⟩
        rcases h3 with h3 | ⟨dx, fs, a1, a2, a3, a4⟩
        · exact .inl h3
        · exact .inr ⟨dx, fs, a1, a2, a3, a4.flat hx⟩
      · exact h.elim
    | ok w S1 =>
      rw [e] at h
      dsimp only at h
      split at h
      · rename_i w' ew
        split at h
        · rename_i hc
          intro ι' v H' st sim' rw'
          obtain ⟨sim2, st2⟩ := sim.still (fun a o q => st.keep a o q (by simp)) sim'.nk
          refine h ι v H' st2 sim2 ?_
          by_cases hw : norefs ws = true
          · refine frz_rel sim' (fun a h1 h2 => ?_) (fun a h1 => ?_) 6 ew rw'
            · have := (not_congr (hB hw a)).mp h2
              exact ⟨fun z => this (.inr z), fun z => this (.inl z)⟩
            · have hn := (st.new a h1 (by simp)).1
              exact ⟨fun z => sim.occι a (.inr z) hn, fun z => sim.occ a z hn⟩
          · have hf : E1.flat w' = true := by
              rw [Bool.or_eq_true] at hc
              exact hc.resolve_left hw
            have r0 : VRel X.K cad [] (fun _ => False) H' w' v := frz_rel sim' (fun a _ _ => ⟨by simp, fun z => z⟩) (fun a _ => ⟨by simp, fun z => z⟩) 6 ew rw'
            exact r0.flat hf
        · exact h.elim
      · exact h.elim
  · exact h.elim

/-! ### a new instance -/
theorem make_fnat {n : Nat} {r : List D → Store → R D} {A fi : Addr} (M : Mk X.K A fi) (F : FnAt X cad n r fi) (hr : Room (n + 1) X.A) (tk : Takes X W) {vs : List V}
    (h : ∀ x dx, H x = none → H dx = none → dx ≠ x → NK X.K (upd (upd H dx (.own x)) x (.ins A dx [])) → spR X.K cad r (.ref x :: vs) (upd (upd H dx (.own x)) x (.ins A dx [])) (fun v H2 => NK X.K H2 → v = .non ∧ Q (.ref x) H2) (fun c d H' => W c d σ H')) :
    cSemS X (.ref A) σ vs H Q := fun pins s us I rx => by
  obtain ⟨fd, ps, F, hb⟩ := F.ok
  have J := Inv.made (C := A) I
  have want := h (s.heap.objs.size + 1) s.heap.objs.size (I.hok.fresh (Nat.le_succ _)) (I.hok.fresh (Nat.le_refl _)) (Nat.ne_of_lt (Nat.lt_succ_self _)) (Inv_NK J)
  have all : Vals (V.ref (s.heap.objs.size + 1) :: vs) (Value.ref (s.heap.objs.size + 1) :: us) := Paired.cons rfl rx
  have few : (Value.ref (s.heap.objs.size + 1) :: us ++ []).length = ps.length := by
    rw [List.append_nil, ← all.length]
    exact F.len _ _ _ _ want
  have bind := hb _ (Value.ref (s.heap.objs.size + 1) :: us) J.kIn few
  rw [List.append_nil] at bind
  refine wpAny_call (make_map (f := fi) I.kIn M.makes M.init (beq_iff_eq.mp M.fn) ?_)
  refine codeAny_mono (F.run _ X.stack _ _ ⟨Value.ref (s.heap.objs.size + 1) :: us, []⟩ _ _ _ _ (hr.make A us []) (J.env0.make A us []) bind all want) fun res s' got => ?_
  cases res with
  | error e => exact passAt tk σ pins _ _ e s' J got
  | ok fl =>
    cases fl with
    | ret u =>
      obtain ⟨v, H2, J2, rv, q2⟩ := J.after got
      obtain ⟨rfl, q3⟩ := q2 (Inv_NK J2)
      exact ⟨rv, ⟨V.ref (s.heap.objs.size + 1), H2, J2, rfl, q3⟩⟩
    | next => exact False.elim got
    | brk => exact False.elim got
    | cont => exact False.elim got

theorem nk_own {x dx : Addr} {A : Addr} (hne : dx ≠ x) (nk : NK X.K (upd (upd H dx (.own x)) x (.ins A dx []))) : NK X.K (upd H dx (.own x)) := trivial
theorem rawMake_ok {n : Nat} {C : Env} {c : String} {A fi : Addr} (M : Mk X.K A fi) (hcl : Cls X.K A) (hA : cad c = some A) (F : FnAt X cad n (C.call (c ++ ".__init__")) fi) (hr : Room (n + 1) X.A) (tk : Takes X W) {ws : List D} {vs : List V} (sim : Sim X.K cad ι B H S) (rv : VRels X.K cad ι B H ws vs)
    (h : Post (rawMake C c ws S) (OkQ X.K cad ι B H Q) (ExQ X.K cad ι B H fun c d H' => W c d σ H')) : cSemS X (.ref A) σ vs H Q := by
  refine make_fnat M F hr tk fun x dx hx hdx hne nk => ?_
  have nk1 := nk_own hne nk
  have sim1 := sim.laid hdx nk1
  have st1 : Step X.K ι H ι (upd H dx (.own x)) := .laid hdx
  have hx1 : upd H dx (.own x) x = none := by rw [upd_ne (Ne.symm hne)]; exact hx
  have st2 : Step X.K ι (upd H dx (.own x)) (ι ++ [x]) (upd (upd H dx (.own x)) x (.ins A dx [])) := .cell hx1 nk
  have sim2 : Sim X.K cad (ι ++ [x]) B (upd (upd H dx (.own x)) x (.ins A dx [])) (S ++ [.ins c [] []]) := sim1.push hx1 nk (.ins (fs := []) hA upd_same rfl ⟨hcl, fun _ h => by cases h⟩ .nil)
  have st := st1.trans st2
  have hxi : (ι ++ [x])[S.length]? = some x := by
    rw [List.getElem?_append_right (by rw [sim.len]; omega), sim.len]; simp
  refine ⟨B, ι ++ [x], .ref S.length :: ws, S ++ [.ins c [] []], sim2, .cons (.ref hxi) (rv.mono sim st fun _ q => q), ?_⟩
  unfold rawMake at h
  refine (h.bind).imp (fun d S' q => ?_) fun y S' q => q.after st
  intro ι' v H' s' sim' r' _
  cases d with
  | non =>
    refine ⟨r'.nonOf, ?_⟩
    refine q ι' _ H' (st.trans s') sim' (.ref ?_)
    obtain ⟨t, rfl⟩ := s'.pre
    rw [List.getElem?_append_left (by simp [sim.len])]
    exact hxi
  | _ => exact q.elim
theorem frzMake_ok {n : Nat} {C : Env} {c : String} {A fi : Addr} (M : Mk X.K A fi) (hcl : Cls X.K A) (hA : cad c = some A) (F : FnAt X cad n (C.call (c ++ ".__init__")) fi) (hr : Room (n + 1) X.A) (tk : Takes X W) {ws : List D} {vs : List V} (sim : Sim X.K cad ι B H S) (rv : VRels X.K cad ι B H ws vs)
    (h : Post (frzMake C c ws S) (OkQ X.K cad ι B H Q) (ExQ X.K cad ι B H fun c d H' => W c d σ H')) : cSemS X (.ref A) σ vs H Q := by
  unfold frzMake at h
  split at h
  · rename_i hn
    rw [Bool.and_eq_true] at hn
    have hw := hn.2
    refine make_fnat M F hr tk fun x dx hx hdx hne nk => ?_
    have nk1 := nk_own hne nk
    have rv0 : VRels X.K cad [] (fun a => B a ∨ a ∈ ι) H (ws.map (rb S)) vs := by
      rw [rb_noref hw]
      exact rv.re (fun a h1 h2 => ⟨by simp, fun z => z.elim h2 h1⟩) hw
    have sim0 : Sim X.K cad [] (fun a => B a ∨ a ∈ ι) H [] := Sim.nil sim.nk sim.occι
    have sim1 := sim0.laid hdx nk1
    have st1 : Step X.K [] H [] (upd H dx (.own x)) := .laid hdx
    have hx1 : upd H dx (.own x) x = none := by rw [upd_ne (Ne.symm hne)]; exact hx
    have st2 : Step X.K [] (upd H dx (.own x)) ([] ++ [x]) (upd (upd H dx (.own x)) x (.ins A dx [])) := .cell hx1 nk
    have sim2 : Sim X.K cad ([] ++ [x]) (fun a => B a ∨ a ∈ ι) (upd (upd H dx (.own x)) x (.ins A dx [])) ([] ++ [.ins c [] []]) := sim1.push hx1 nk (.ins (fs := []) hA upd_same rfl ⟨hcl, fun _ h => by cases h⟩ .nil)
    have st := st1.trans st2
    refine ⟨_, [] ++ [x], .ref 0 :: ws.map (rb S), [] ++ [.ins c [] []], sim2, .cons (.ref rfl) (rv0.mono sim0 st fun _ q => q), ?_⟩
    simp only [List.nil_append]
    cases e : C.call (c ++ ".__init__") (.ref 0 :: ws.map (rb S)) [.ins c [] []] with
    | no => rw [e] at h; exact h.elim
    | exc y S1 =>
      rw [e] at h
      dsimp only at h
      split at h
      · rename_i hxs
        intro ι' cls dd H' s' sim' hex
        obtain ⟨sim3, st3⟩ := sim.still (fun a o q => (st.trans s').keep a o q (by simp)) sim'.nk
        refine h ι cls dd H' st3 sim3 ?_
        obtain ⟨A', h1, h2, hxc, h3⟩ := hex
        refine ⟨A', h1, h2, hxc, ?_⟩
        rcases h3 with h3 | ⟨dx', fs, a1, a2, a3, a4⟩
        · exact .inl h3
        · exact .inr ⟨dx', fs, a1, a2, a3, a4.flat hxs⟩
      · exact h.elim
    | ok w S1 =>
      rw [e] at h
      cases w with
      | non =>
        dsimp only at h
        split at h
        · rename_i w' ew
          intro ι' v H' s' sim' rw' _
          refine ⟨rw'.nonOf, ?_⟩
          obtain ⟨sim3, st3⟩ := sim.still (fun a o q => (st.trans s').keep a o q (by simp)) sim'.nk
          refine h ι _ H' st3 sim3 ?_
          refine frz_rel sim' (fun a h1 h2 => ?_) (fun a h1 => ?_) 6 ew (.ref (i := 0) (a := x) ?_)
          · exact ⟨fun z => h2 (.inr z), fun z => h2 (.inl z)⟩
          · have hn := ((st.trans s').new a h1 (by simp)).1
            exact ⟨fun z => sim.occι a (.inr z) hn, fun z => sim.occ a z hn⟩
          · obtain ⟨t, rfl⟩ := s'.pre
            rfl
        · exact h.elim
      | _ => exact h.elim
  · exact h.elim
end
end E1

/-! E1: whether a syntax tree of Python is the one of mine. -/
namespace E1
open PySem L2

def bmT (m : String) : Option (String × String) :=
  if m == "append" then some ("list", "list.append") else if m == "extend" then some ("list", "list.extend") else if m == "pop" then some ("list", "list.pop") else if m == "insert" then some ("list", "list.insert")
  else if m == "clear" then some ("list", "list.clear") else if m == "reverse" then some ("list", "list.reverse") else if m == "get" then some ("dict", "dict.get") else none

structure Gc where
  N : List String
  sc : Scope
  fnc : Option Scope
  calm : Bool
structure Tab where
  fns : List (String × String)
  cls : List String
  mts : List String
  bts : List String
  tys : List String
  xs : List (String × List String)

def strEq (x : Str) (y : String) : Bool := x == Str.ofString y
def isVis (k : Option NameKind) : Bool := match k with | some .local => true | some .cell => true | some .free => true | _ => false
def isGlob (g : Gc) (x : Str) : Bool := match g.sc.names.lookup x with | some .globalImplicit => true | _ => false
def okName (g : Gc) (i : Nat) (x : Str) : Bool :=
  (match g.N[i]? with | some y => strEq x y | none => false) && isVis (g.sc.names.lookup x) && !(x == ("__debug__" : Str)) && !(x == ("__classdict__" : Str))
def okStore (g : Gc) (i : Nat) (x : Str) : Bool :=
  (match g.N[i]? with | some y => strEq x y | none => false) &&
    (match g.sc.names.lookup x with
      | some .local => true
      | some .cell => (match g.fnc with | none => true | some sc => sc.names.lookup x == some .cell)
      | _ => false)
def okGlob (g : Gc) (x : Str) : Bool := isGlob g x && !(x == ("__debug__" : Str))
def notStar : Expr → Bool
  | .Starred _ _ => false
  | _ => true
def notSuper : Expr → Bool
  | .Call (.Name _ _) [] [] _ => false
  | _ => true
def notSlice : Expr → Bool
  | .Slice _ _ _ _ => false
  | _ => true
def notSet : Expr → Bool
  | .Set _ _ _ => false
  | _ => true
def litOk : D → Const → Bool
  | .non, .none => true
  | .bl b, .bool c => b == c
  | .int i, .int j => i == j
  | .str x, .str y => x == y && PyData.strOk x
  | _, _ => false
def bltName : Blt → String
  | .len => "len" | .abs => "abs" | .min2 => "min" | .max2 => "max" | .sum => "sum" | .list _ => "list" | .tuple => "tuple" | .int => "int" | .str => "str" | .all => "all" | .any => "any" | .sorted _ => "sorted"
def ownOf (g : Gc) (own : List Nat) : List (Str × Nat) := own.map fun i => (match g.N[i]? with | some y => Str.ofString y | none => Str.empty, i)
def okTys (t : Tab) (g : Gc) : List String → List Expr → Bool
  | [], [] => true
  | s :: ss, .Name x _ :: es => strEq x s && okGlob g x && t.tys.contains s && okTys t g ss es
  | _, _ => false
def isTup : Expr → Bool
  | .Tuple _ _ _ => true
  | _ => false
mutual
def tgN : Tg → List Nat
  | .name i => [i]
  | .att _ _ => []
  | .sub _ _ => []
  | .tup ts => tgsN ts
def tgsN : Tgs → List Nat
  | .nil => []
  | .cons t ts => tgN t ++ tgsN ts
end
def isBool : Expr → Bool
  | .BoolOp _ _ _ => true
  | _ => false
def lenE : Exs → Nat
  | .nil => 0
  | .cons _ es => lenE es + 1

def isCallE : Expr → Bool
  | .Call _ _ _ _ => true
  | _ => false
mutual
def okE (t : Tab) (g : Gc) : Ex → Expr → Bool
  | .var i, e => match e with
    | .Name x _ => okName g i x
    | _ => false
  | .lit d, e => match e with
    | .Constant c _ _ => litOk d c
    | _ => false
  | .glob _, _ => false
  | .bin op a b, e => match e with
    | .BinOp l o r _ => (o == pyOp op) && okE t g a l && okE t g b r
    | _ => false
  | .neg a, e => match e with
    | .UnaryOp .USub x _ => okE t g a x
    | _ => false
  | .not a, e => match e with
    | .UnaryOp .Not x _ => okE t g a x
    | _ => false
  | .cmp op a b, e => match e with
    | .Compare l [o] [r] _ => (o == pyCmp op) && okE t g a l && okE t g b r && notSet r
    | _ => false
  | .chain o1 o2 a b c, e => match e with
    | .Compare l [p1, p2] [r, q] _ => (p1 == pyCmp o1) && (p2 == pyCmp o2) && okE t g a l && okE t g b r && okE t g c q && notSet q
    | _ => false
  | .and a b, e => match e with
    | .BoolOp .And (x :: y :: r) pos => okE t g a x && (match r with | [] => okE t g b y | _ :: _ => okE t g b (.BoolOp .And (y :: r) pos))
    | _ => false
  | .or a b, e => match e with
    | .BoolOp .Or (x :: y :: r) pos => okE t g a x && (match r with | [] => okE t g b y | _ :: _ => okE t g b (.BoolOp .Or (y :: r) pos))
    | _ => false
  | .ifx c a b, e => match e with
    | .IfExp x y z _ => okE t g c x && okE t g a y && okE t g b z
    | _ => false
  | .tup es, e => match e with
    | .Tuple xs _ _ => okEs t g es xs
    | _ => false
  | .lst _ es, e => match e with
    | .List xs _ => okEs t g es xs
    | _ => false
  | .dic _, e => match e with
    | .Dict [] [] _ => true
    | _ => false
  | .sub a i, e => match e with
    | .Subscript x y _ => okE t g a x && okE t g i y && notSlice y
    | _ => false
  | .slc _ a lo hi, e => match e with
    | .Subscript x (.Slice l h none _) _ => okE t g a x && okO t g lo l && okO t g hi h
    | _ => false
  | .att a f, e => match e with
    | .Attribute x n _ => okE t g a x && strEq n f && notSuper x
    | _ => false
  | .call _ f es, e => match e with
    | .Call (.Name x _) xs [] _ => g.calm && okGlob g x && (match t.fns.lookup f with | some y => strEq x y | none => false) && okEs t g es xs
    | _ => false
  | .make _ c es, e => match e with
    | .Call (.Name x _) xs [] _ => g.calm && okGlob g x && strEq x c && t.cls.contains c && okEs t g es xs
    | _ => false
  | .meth _ a m es, e => match e with
    | .Call (.Attribute x n apos) xs [] pos => g.calm && okE t g a x && strEq n m && t.mts.contains m && notSuper x && (apos.endLine == pos.line) && okEs t g es xs && decide (lenE es < 29)
    | _ => false
  | .blt b es, e => match e with
    | .Call (.Name x _) xs [] _ => g.calm && okGlob g x && strEq x (bltName b) && t.bts.contains (bltName b) && okEs t g es xs && decide (0 < lenE es)
    | _ => false
  | .isi a ts, e => match e with
    | .Call (.Name x _) [y, z] [] _ => !ts.isEmpty && decide (ts.length < 100) && okGlob g x && strEq x "isinstance" && t.bts.contains "isinstance" && okE t g a y && notStar y && (match z with
        | .Tuple zs _ _ => okTys t g ts zs
        | .Name _ _ => okTys t g ts [z]
        | _ => false)
    | _ => false
  | .bm m _ a es, e => match e with
    | .Call (.Attribute x n apos) xs [] pos => okE t g a x && strEq n m && notSuper x && (apos.endLine == pos.line) && okEs t g es xs && decide (lenE es < 29) && (bmT m).isSome
    | _ => false
  | .comp _ elt tg it cond own, e => match e with
    | .ListComp x [⟨y, z, ifs, 0⟩] scope _ => blkC (g.N.map Str.ofString) g.sc scope (ownOf g own) && okI t g y it z && (tgN tg).all (fun i => own.contains i) && g.calm &&
        okT t ⟨g.N, relS scope g.sc, some scope, g.calm⟩ tg y && okE t ⟨g.N, relS scope g.sc, some scope, g.calm⟩ elt x && okC t ⟨g.N, relS scope g.sc, some scope, g.calm⟩ cond ifs
    | _ => false
  | .frz a, e => okE t g a e && isCallE e
def okEs (t : Tab) (g : Gc) : Exs → List Expr → Bool
  | .nil, [] => true
  | .cons e es, x :: xs => okE t g e x && notStar x && okEs t g es xs
  | _, _ => false
def okO (t : Tab) (g : Gc) : OEx → Option Expr → Bool
  | .no, none => true
  | .so e, some x => okE t g e x
  | _, _ => false
def okC (t : Tab) (g : Gc) : OEx → List Expr → Bool
  | .no, [] => true
  | .so e, [x] => okE t g e x
  | _, _ => false
def okI (t : Tab) (g : Gc) (tg : Expr) : It → Expr → Bool
  | .ex e, x => okE t g e x && notSet x
  | .rng es, e => match e with
    | .Call (.Name x _) xs [] _ => okGlob g x && strEq x "range" && t.bts.contains "range" && okEs t g es xs && decide (0 < lenE es) && decide (lenE es < 4)
    | _ => false
  | .enum a, e => match e with
    | .Call (.Name x _) [y] [] _ => okGlob g x && isTup tg && strEq x "enumerate" && t.bts.contains "enumerate" && okE t g a y && notStar y
    | _ => false
  | .zip a b, e => match e with
    | .Call (.Name x _) [y, z] [] _ => okGlob g x && isTup tg && strEq x "zip" && t.bts.contains "zip" && okE t g a y && notStar y && okE t g b z && notStar z
    | _ => false
  | .items _, _ => false
  | .rev a, e => match e with
    | .Call (.Name x _) [y] [] _ => okGlob g x && strEq x "reversed" && t.bts.contains "reversed" && okE t g a y && notStar y
    | _ => false
def okT (t : Tab) (g : Gc) : Tg → Expr → Bool
  | .name i, e => match e with
    | .Name x _ => okStore g i x
    | _ => false
  | .att a f, e => match e with
    | .Attribute x n _ => okE t g a x && strEq n f
    | _ => false
  | .sub a i, e => match e with
    | .Subscript x y _ => okE t g a x && okE t g i y && notSlice y
    | _ => false
  | .tup ts, e => match e with
    | .Tuple xs _ _ => g.calm && okTs t g ts xs
    | _ => false
def okTs (t : Tab) (g : Gc) : Tgs → List Expr → Bool
  | .nil, [] => true
  | .cons a as, x :: xs => okT t g a x && notStar x && okTs t g as xs
  | _, _ => false
end
end E1

set_option maxHeartbeats 1000000
/-! E1: argument lists, calls, tests. -/
namespace E1
open PySem PySem.Spec PyProof.Rows L2

/-! ### arguments -/
theorem star_ns {e : Expr} {es : List Expr} {env : PySem.Env} (h : notStar e = true) : starEach (e :: es) env = (false, eval e env) :: starEach es env := by
  cases e <;> first | rfl | (simp [notStar] at h)
theorem star_plain {env : PySem.Env} {pos : Pos} : ∀ {es : List Expr}, (∀ e ∈ es, notStar e = true) → (backTo pos (starEach es env)).any (·.1) = false
  | [], _ => rfl
  | e :: es, h => by
    rw [star_ns (h e (by simp))]
    show (false || (backTo pos (starEach es env)).any (·.1)) = false
    rw [star_plain fun x hx => h x (by simp [hx])]; rfl
theorem star_all {env : PySem.Env} {pos : Pos} : ∀ {es : List Expr}, (∀ e ∈ es, notStar e = true) → (backTo pos (starEach es env)).all (fun x => !x.1) = true
  | [], _ => rfl
  | e :: es, h => by
    rw [star_ns (h e (by simp))]
    show (true && (backTo pos (starEach es env)).all (fun x => !x.1)) = true
    rw [star_all fun x hx => h x (by simp [hx])]; rfl

def aSem (X : Cx) (es : List Expr) : TA := fun σ H Q => ∀ (pos : Pos) (pins : List (Addr × Obj)) (s : Shared), Inv X pins σ H s → wpAny (model X.prog X.w) X.A (spliced (backTo pos (starEach es X.env))) (AP X pins σ Q) X.xe s
theorem pa_sem {X : Cx} {es : List Expr} : PA X es (aSem X es) := ⟨fun pos pins s _ _ _ I h => h pos pins s I⟩
theorem aSem.of {X : Cx} {es : List Expr} {t : TA} {σ : L2.St} {H : Hp} {Q : List V → Hp → Prop} (h : PA X es t) (q : t σ H (fun v H' => NK X.K H' → Q v H')) : aSem X es σ H Q := fun pos pins s I =>
  thn (h.run pos pins s σ H _ I q) fun _ _ ⟨v, H', I', r, q⟩ => ⟨v, H', I', r, q (Inv_NK I')⟩
section
variable (K : Frag) (cad : String → Option Addr)
def OkA (ι : List Addr) (B : Addr → Prop) (H : Hp) (Q : List V → Hp → Prop) (ds : List D) (S' : Store) : Prop :=
  ∀ ι' vs H', Step K ι H ι' H' → Sim K cad ι' B H' S' → VRels K cad ι' B H' ds vs → Q vs H'
end
theorem OkA.after {K : Frag} {cad : String → Option Addr} {ι ι' : List Addr} {B : Addr → Prop} {H H' : Hp} {Q : List V → Hp → Prop} {ds : List D} {S' : Store} (h : OkA K cad ι B H Q ds S') (s : Step K ι H ι' H') : OkA K cad ι' B H' Q ds S' :=
  fun ι2 v H2 s2 sim r => h ι2 v H2 (s.trans s2) sim r
def SndA (X : Cx) (cad : String → Option Addr) (W : WX) (es : List Expr) (m : Slots → Store → R (List D)) : Prop :=
  ∀ (B : Addr → Prop) (ι : List Addr) (σw : Slots) (S : Store) (σ : L2.St) (H : Hp) (Q : List V → Hp → Prop), Sim X.K cad ι B H S → Slo X.K cad ι B H σw σ →
    Post (m σw S) (OkA X.K cad ι B H Q) (ExQ X.K cad ι B H fun c d H' => W c d σ H') → aSem X es σ H Q
section
variable {X : Cx} {cad : String → Option Addr} {W : WX} {e a b c : Expr} {es : List Expr} {m ma mb mc : Slots → Store → R D} {ms : Slots → Store → R (List D)} {pos : Pos}
variable {ι : List Addr} {B : Addr → Prop} {H : Hp} {S : Store} {σw : Slots} {σ : L2.St} {Q : VK}
theorem sndA_nil : SndA X cad W [] (fun _ S => .ok [] S) := by
  intro B ι σw S σ H Q sim sl h
  exact aSem.of pa_nil fun _ => h ι [] H .refl sim .nil
theorem sndA_cons (hn : notStar e = true) (h1 : SndE X cad W e m) (h2 : SndA X cad W es ms) : SndA X cad W (e :: es) (fun σ S => (m σ S).bind fun x S => (ms σ S).bind fun xs S => .ok (x :: xs) S) := by
  intro B ι σw S σ H Q sim sl h
  refine aSem.of (pa_cons pe_sem pa_sem (star_ns hn)) ?_
  refine h1 B ι σw S σ H _ sim sl ((h.bind).imp (fun x S1 q1 => ?_) fun x S1 q1 => q1)
  intro ι1 v H1 s1 sim1 r1
  refine h2 B ι1 σw S1 σ H1 _ sim1 (sl.mono sim s1) ((q1.bind).imp (fun xs S2 q2 => ?_) fun x S1 q1 => q1.after s1)
  intro ι2 vs H2 s2 sim2 r2 _
  exact q2 ι2 (v :: vs) H2 (s1.trans s2) sim2 (.cons (r1.mono sim1 s2 fun _ q => q) r2)

theorem sndAf {f : List D → Store → R D} {R1 : List V → Hp → Prop} (ha : SndA X cad W es ms)
    (hf : ∀ (ι1 : List Addr) (H1 : Hp) (S1 : Store) (xs : List D) (vs : List V), Step X.K ι H ι1 H1 → Sim X.K cad ι1 B H1 S1 → VRels X.K cad ι1 B H1 xs vs → Post (f xs S1) (OkQ X.K cad ι1 B H1 Q) (ExQ X.K cad ι1 B H1 fun c d H' => W c d σ H') → R1 vs H1)
    (sim : Sim X.K cad ι B H S) (sl : Slo X.K cad ι B H σw σ)
    (h : Post ((ms σw S).bind fun xs S => f xs S) (OkQ X.K cad ι B H Q) (ExQ X.K cad ι B H fun c d H' => W c d σ H')) :
    aSem X es σ H R1 := by
  refine ha B ι σw S σ H _ sim sl ((h.bind).imp (fun xs S1 h1 => ?_) fun x S1 h1 => h1)
  intro ι1 vs H1 s1 sim1 r1
  exact hf ι1 H1 S1 xs vs s1 sim1 r1 (h1.imp (fun d S' q => q.after s1) fun x S' q => q.after s1)

/-! ### calls -/
theorem pe_callSem {x : Str} {p : Pos} {fa : Addr} (hns : ∀ y ∈ e :: es, notStar y = true) (hg : Gl X x) (hm : X.mg x = some (.ref fa)) (hk : PySem.W.keepIn X.K (.ref fa) = true) (hdb : (x == ("__debug__" : Str)) = false)
    (h : aSem X (e :: es) σ H fun vs H' => cSemS X (.ref fa) σ vs H' Q) : tSem X (.Call (.Name x p) (e :: es) [] pos) σ H Q := fun pins s I => by
  refine wpAny_Call_Name_kw (ld_glob I hg hm ?_ hdb)
  refine PySem.W.callWith_K (h₀ := X.base) I.ok.mod.kin hk (thn (h pos pins s I) fun us s1 ⟨vs, H1, I1, r, q⟩ => ⟨I1.kIn, ?_⟩) (star_ns (hns e (by simp))) (star_plain fun x hx => hns x (by simp [hx]))
  exact q pins s1 us I1 r
theorem pe_callSem0 {x : Str} {p : Pos} {fa : Addr} (hg : Gl X x) (hm : X.mg x = some (.ref fa)) (hk : PySem.W.keepIn X.K (.ref fa) = true) (hdb : (x == ("__debug__" : Str)) = false)
    (h : cSemS X (.ref fa) σ [] H Q) : tSem X (.Call (.Name x p) [] [] pos) σ H Q := fun pins s I => by
  refine wpAny_Call_Name_kw (ld_glob I hg hm ?_ hdb)
  exact PySem.W.callWith_K0 I.kIn hk (h pins s [] I .nil)
theorem snd_callF {x : Str} {p : Pos} {fa : Addr} {f : List D → Store → R D} (hns : ∀ y ∈ es, notStar y = true) (hg : Gl X x) (hm : X.mg x = some (.ref fa)) (hk : PySem.W.keepIn X.K (.ref fa) = true) (hdb : (x == ("__debug__" : Str)) = false)
    (ha : SndA X cad W es ms) (h0 : es = [] → ∀ σ S, ms σ S = .ok [] S)
    (hf : ∀ (B : Addr → Prop) (ι1 : List Addr) (H1 : Hp) (S1 : Store) (xs : List D) (vs : List V) (σ : L2.St) (Q : VK), Sim X.K cad ι1 B H1 S1 → VRels X.K cad ι1 B H1 xs vs → Post (f xs S1) (OkQ X.K cad ι1 B H1 Q) (ExQ X.K cad ι1 B H1 fun c d H' => W c d σ H') → cSemS X (.ref fa) σ vs H1 Q) :
    SndE X cad W (.Call (.Name x p) es [] pos) (fun σ S => (ms σ S).bind fun xs S => f xs S) := by
  intro B ι σw S σ H Q sim sl h
  cases es with
  | nil =>
    dsimp only at h
    rw [h0 rfl] at h
    exact pe_callSem0 hg hm hk hdb (hf B ι H S [] [] σ Q sim .nil h)
  | cons e es => exact pe_callSem hns hg hm hk hdb (sndAf ha (fun ι1 H1 S1 xs vs s1 sim1 r1 h1 => hf B ι1 H1 S1 xs vs σ Q sim1 r1 h1) sim sl h)
theorem few_of {n : Nat} {env : PySem.Env} (hns : ∀ y ∈ es, notStar y = true) (hl : es.length < 30) : methodCallForm (es.length + ([] : List Keyword).length) (backTo pos (starEach es env)) (backToKw pos (keywordEach [] env)) = true := by
  unfold methodCallForm
  rw [star_all hns]
  show (true && ([] : List (Option Str × Sem Value)).all _ && decide (es.length + 0 + _ < 30)) = true
  simp [backToKw, keywordEach, hl]
theorem base_of {o : Expr} {f : Str} {env : PySem.Env} (h : notSuper o = true) : attributeBase o f env (eval o env) = eval o env := by
  unfold attributeBase
  split
  · simp [notSuper] at h
  · rfl
theorem pe_methSem {o : Expr} {m : Str} {apos : Pos} (hns : ∀ y ∈ es, notStar y = true) (hl : es.length < 30) (hsu : notSuper o = true) (hline : (apos.endLine == pos.line) = true)
    (h : tSem X o σ H fun x H1 => ∃ a C dx fs g, x = .ref a ∧ H1 a = some (.ins C dx fs) ∧ Cls X.K C ∧ Meth X.K C m g ∧ fs.lookup m = none ∧
      (es = [] → cSemS X (.ref g) σ [x] H1 Q) ∧ (es ≠ [] → aSem X es σ H1 fun vs H2 => cSemS X (.ref g) σ (x :: vs) H2 Q)) : tSem X (.Call (.Attribute o m apos) es [] pos) σ H Q := fun pins s I => by
  rw [arm_eval_Call, base_of hsu]
  refine wpAny_bind (thn (h pins s I) fun u s1 ⟨x, H1, I1, rx, a, C, dx, fs, g, ex, ea, c, k, l, q0, q1⟩ => ?_)
  subst ex
  obtain rfl : u = Value.ref a := rx
  refine wpAny_bind (wpAny_standAt ?_)
  have hform := few_of (n := 0) (pos := pos) (env := X.env) hns hl
  have hpos : methodCallPos true o X.env apos pos = pure pos := by unfold methodCallPos; simp [hline]
  unfold methodCall
  rw [hform]
  refine wpAny_bind (wpAny_holding (getmeth_ok I1 ea c k l ?_))
  refine wpAny_bind (wpAny_of_eq hpos ?_)
  cases es with
  | nil =>
    refine PySem.W.callWith_K0 (first := [.ref a]) I1.kIn k.kp ?_
    exact q0 rfl pins s1 [.ref a] I1 (.cons rfl .nil)
  | cons e es =>
    refine PySem.W.callWith_K (first := [.ref a]) (h₀ := X.base) I1.ok.mod.kin k.kp (thn (q1 (by simp) pos pins s1 I1) fun us s2 ⟨vs, H2, I2, r, q2⟩ => ⟨I2.kIn, ?_⟩) (star_ns (hns e (by simp))) (star_plain fun x hx => hns x (by simp [hx]))
    exact q2 pins s2 (.ref a :: us) I2 (.cons rfl r)
theorem cls_obj (sim : Sim X.K cad ι B H S) {d : D} {v : V} {C : String} (r : VRel X.K cad ι B H d v) (h : clsOf S d = some C) :
    ∃ (a A dx : Addr) (fs : List (Str × V)) (ns : List String), v = .ref a ∧ cad C = some A ∧ H a = some (.ins A dx fs) ∧ fs.map (·.1) = ns.map Str.ofString ∧ (Cls X.K A ∧ ∀ n ∈ ns, NoAttr X.K A (Str.ofString n)) := by
  unfold clsOf at h
  split at h
  · rename_i e
    cases h
    obtain ⟨a, A, dx, fs, h1, h2, h3, h4, h5, _⟩ := rb_obj sim r e
    exact ⟨a, A, dx, fs, _, h1, h2, h3, h4, h5⟩
  · cases h
theorem lookup_none {fs : List (Str × V)} {x : Str} (h : x ∉ fs.map (·.1)) : fs.lookup x = none := by
  induction fs with
  | nil => rfl
  | cons p fs ih =>
    obtain ⟨k, v⟩ := p
    simp only [List.map_cons, List.mem_cons, not_or] at h
    rw [List.lookup_cons, beq_eq_false_iff_ne.mpr h.1]
    exact ih h.2
theorem meth_noattr {A g : Addr} {m : Str} {fs : List (Str × V)} {ns : List String} (hm : Meth X.K A m g) (hn : fs.map (·.1) = ns.map Str.ofString) (hf : ∀ n ∈ ns, NoAttr X.K A (Str.ofString n)) : fs.lookup m = none := by
  refine lookup_none fun h => ?_
  rw [hn] at h
  obtain ⟨n, h1, rfl⟩ := List.mem_map.mp h
  have h2 := hf n h1
  unfold NoAttr at h2
  rw [hm.at_] at h2
  cases h2
theorem snd_methF {o : Expr} {mn : Str} {apos : Pos} {has : String → Bool} {f : String → List D → Store → R D} (hns : ∀ y ∈ es, notStar y = true) (hl : es.length < 30) (hsu : notSuper o = true) (hline : (apos.endLine == pos.line) = true)
    (ho : SndE X cad W o m) (ha : SndA X cad W es ms) (h0 : es = [] → ∀ σ S, ms σ S = .ok [] S)
    (hg : ∀ (C : String) (A : Addr), cad C = some A → has C = true → ∃ g, Meth X.K A mn g ∧
      ∀ (B : Addr → Prop) (ι1 : List Addr) (H1 : Hp) (S1 : Store) (xs : List D) (vs : List V) (σ : L2.St) (Q : VK), Sim X.K cad ι1 B H1 S1 → VRels X.K cad ι1 B H1 xs vs → Post (f C xs S1) (OkQ X.K cad ι1 B H1 Q) (ExQ X.K cad ι1 B H1 fun c d H' => W c d σ H') → cSemS X (.ref g) σ vs H1 Q) :
    SndE X cad W (.Call (.Attribute o mn apos) es [] pos) (fun σ S => (m σ S).bind fun x S => match clsOf S x with
      | some C => if has C then (ms σ S).bind fun xs S => f C (x :: xs) S else .no
      | none => .no) := by
  intro B ι σw S σ H Q sim sl h
  refine pe_methSem hns hl hsu hline (ho B ι σw S σ H _ sim sl ((h.bind).imp (fun x S1 h1 => ?_) fun x S1 h1 => h1))
  intro ι1 v H1 s1 sim1 r1
  cases hcl : clsOf S1 x with
  | none => rw [hcl] at h1; exact h1.elim
  | some C =>
    rw [hcl] at h1
    dsimp only at h1
    by_cases hh : has C = true
    · rw [if_pos hh] at h1
      obtain ⟨a, A, dx, fs, ns, e1, e2, e3, e4, e5⟩ := cls_obj sim1 r1 hcl
      obtain ⟨g, hm, run⟩ := hg C A e2 hh
      refine ⟨a, A, dx, fs, g, e1, e3, e5.1, hm, meth_noattr hm e4 e5.2, fun e0 => ?_, fun _ => ?_⟩
      · rw [h0 e0] at h1
        exact run B ι1 H1 S1 [x] [v] σ Q sim1 (.cons r1 .nil) (h1.imp (fun d S' q => q.after s1) fun x S' q => q.after s1)
      · refine sndAf (Q := Q) (f := fun xs S => f C (x :: xs) S) ha (fun ι2 H2 S2 xs vs s2 sim2 r2 h2 => ?_) sim1 (sl.mono sim s1) (h1.imp (fun d S' q => q.after s1) fun x S' q => q.after s1)
        exact run B ι2 H2 S2 (x :: xs) (v :: vs) σ Q sim2 (.cons (r1.mono sim1 s2 fun _ q => q) r2) h2
    · rw [if_neg hh] at h1; exact h1.elim
theorem pe_bltSem {x : Str} {p : Pos} {u : Value} (hu : (∃ id, u = .builtin id) ∨ ∃ T, u = .type T) (hns : ∀ y ∈ e :: es, notStar y = true) (hg : Gl X x) (hm : X.mg x = none) (hv : bootBuiltins x = some u) (hn : x ≠ "__name__") (hdb : (x == ("__debug__" : Str)) = false)
    (h : aSem X (e :: es) σ H fun vs H' => cSem X u vs H' Q) : tSem X (.Call (.Name x p) (e :: es) [] pos) σ H Q := fun pins s I => by
  refine wpAny_Call_Name_kw (ld_blt I hg hm hv ?_ hn hdb)
  rcases hu with ⟨id, rfl⟩ | ⟨T, rfl⟩
  · exact PyProof.Rows.callWith_builtin1 (thn (h pos pins s I) fun us s1 ⟨vs, H1, I1, r, q⟩ => q pins s1 σ us I1 r) (star_ns (hns e (by simp))) (star_plain fun x hx => hns x (by simp [hx]))
  · exact PyProof.Rows.callWith_type1 (thn (h pos pins s I) fun us s1 ⟨vs, H1, I1, r, q⟩ => q pins s1 σ us I1 r) (star_ns (hns e (by simp))) (star_plain fun x hx => hns x (by simp [hx]))
theorem bltV_kind (b : Blt) : (∃ id, bltV b = .builtin id) ∨ ∃ T, bltV b = .type T := by
  cases b <;> first | exact .inl ⟨_, rfl⟩ | exact .inr ⟨_, rfl⟩
theorem snd_blt {b : Blt} {x : Str} {p : Pos} (hc : X.calm = true) (hns : ∀ y ∈ e :: es, notStar y = true) (hg : Gl X x) (hm : X.mg x = none) (hv : bootBuiltins x = some (bltV b)) (hn : x ≠ "__name__") (hdb : (x == ("__debug__" : Str)) = false)
    (hnx : ∀ xs S, NoExc (blt b xs S)) (ha : SndA X cad W (e :: es) ms) : SndE X cad W (.Call (.Name x p) (e :: es) [] pos) (fun σ S => (ms σ S).bind fun xs S => blt b xs S) := by
  intro B ι σw S σ H Q sim sl h
  refine pe_bltSem (bltV_kind b) hns hg hm hv hn hdb (sndAf ha (fun ι1 H1 S1 xs vs s1 sim1 r1 h1 => ?_) sim sl h)
  obtain ⟨d, S2, e2, q2⟩ := h1.ok (hnx xs S1)
  exact blt_ok hc sim1 r1 e2 q2

/-! ### tests -/
def sT (X : Cx) (e : Expr) : TT := fun σ H Q => ∀ (pins : List (Addr × Obj)) (s : Shared), Inv X pins σ H s → wpAny (model X.prog X.w) X.A (isTrue e X.env (eval e X.env)) (TP X pins σ Q) X.xe s
def sW (X : Cx) (e : Expr) : TT := fun σ H Q => ∀ (whole : Sem Value) (pins : List (Addr × Obj)) (s : Shared), Inv X pins σ H s → wpAny (model X.prog X.w) X.A (isTrue e X.env whole) (TP X pins σ Q) X.xe s
theorem pt_sem : PT X e (sT X e) := ⟨fun pins s _ _ _ I h => h pins s I⟩
theorem pw_sem : PW X e (sW X e) := ⟨fun w pins s _ _ _ I h => h w pins s I⟩
def OkB (K : Frag) (cad : String → Option Addr) (ι : List Addr) (B : Addr → Prop) (H : Hp) (Q : Bool → Hp → Prop) (d : D) (S' : Store) : Prop :=
  ∃ b, d = .bl b ∧ ∀ ι' H', Step K ι H ι' H' → Sim K cad ι' B H' S' → Q b H'
theorem OkB.after {K : Frag} {ι ι' : List Addr} {H H' : Hp} {Q : Bool → Hp → Prop} {d : D} {S' : Store} (h : OkB K cad ι B H Q d S') (s : Step K ι H ι' H') : OkB K cad ι' B H' Q d S' := by
  obtain ⟨b, e, h⟩ := h
  exact ⟨b, e, fun ι2 H2 s2 sim => h ι2 H2 (s.trans s2) sim⟩
def SndT (X : Cx) (cad : String → Option Addr) (W : WX) (e : Expr) (m : Slots → Store → R D) : Prop :=
  ∀ (B : Addr → Prop) (ι : List Addr) (σw : Slots) (S : Store) (σ : L2.St) (H : Hp) (Q : Bool → Hp → Prop), Sim X.K cad ι B H S → Slo X.K cad ι B H σw σ →
    Post (m σw S) (OkB X.K cad ι B H Q) (ExQ X.K cad ι B H fun c d H' => W c d σ H') → sT X e σ H Q
def SndW (X : Cx) (cad : String → Option Addr) (W : WX) (e : Expr) (m : Slots → Store → R D) : Prop :=
  ∀ (B : Addr → Prop) (ι : List Addr) (σw : Slots) (S : Store) (σ : L2.St) (H : Hp) (Q : Bool → Hp → Prop), Sim X.K cad ι B H S → Slo X.K cad ι B H σw σ →
    Post (m σw S) (OkB X.K cad ι B H Q) (ExQ X.K cad ι B H fun c d H' => W c d σ H') → sW X e σ H Q
theorem SndW.t (h : SndW X cad W e m) : SndT X cad W e m := fun B ι σw S σ H Q sim sl hp pins s I => h B ι σw S σ H Q sim sl hp _ pins s I
theorem snd_val (he : ∀ whole, isTrue e X.env whole = (do let v ← whole; standAt e.pos; holding [v] (truthy v))) (h : SndE X cad W e m) : SndT X cad W e m := by
  intro B ι σw S σ H Q sim sl hp pins s I
  refine (pt_val (e := e) (t := tSem X e) pe_sem he).run pins s σ H Q I ?_
  refine h B ι σw S σ H _ sim sl (hp.imp (fun d S' q => ?_) fun x S' q => q)
  obtain ⟨b, rfl, q⟩ := q
  intro ι' v H' st sim' r
  exact ⟨b, r.blOf, q ι' H' st sim'⟩
theorem snd_valN (hn : ∀ (f : R D → R D), True) (h : SndE X cad W e m) (he : ∀ whole, isTrue e X.env whole = (do let v ← whole; standAt e.pos; holding [v] (truthy v))) : SndT X cad W e m := snd_val he h
theorem sT_not (h : SndT X cad W a ma) : SndT X cad W (.UnaryOp .Not a pos) (fun σ S => (ma σ S).bind fun x S => match x with | .bl b => .ok (.bl !b) S | _ => .no) := by
  intro B ι σw S σ H Q sim sl hp pins s I
  refine (pt_not (a := a) (pos := pos) pt_sem).run pins s σ H Q I ?_
  refine h B ι σw S σ H _ sim sl ((hp.bind).imp (fun d S' q => ?_) fun x S' q => q)
  cases d with
  | bl b =>
    obtain ⟨b', e, q⟩ := q
    cases e
    exact ⟨b, rfl, q⟩
  | _ => exact q.elim
theorem sE_not (h : SndE X cad W a ma) : SndE X cad W (.UnaryOp .Not a pos) (fun σ S => (ma σ S).bind fun x S => match x with | .bl b => .ok (.bl !b) S | _ => .no) := by
  intro B ι σw S σ H Q sim sl hp
  refine tSem.of (pe_not (a := a) (pos := pos) pe_sem) ?_
  refine h B ι σw S σ H _ sim sl ((hp.bind).imp (fun d S' q => ?_) fun x S' q => q)
  intro ι' v H' st sim' r
  cases d with
  | bl b => exact ⟨b, r.blOf, fun _ => q ι' _ H' st sim' (.bl _)⟩
  | _ => exact q.elim
def andF (ma mb : Slots → Store → R D) : Slots → Store → R D := fun σ S => (ma σ S).bind fun x S => match x with
    | .bl true => mb σ S
    | .bl false => .ok (.bl false) S
    | _ => .no
def orF (ma mb : Slots → Store → R D) : Slots → Store → R D := fun σ S => (ma σ S).bind fun x S => match x with
    | .bl true => .ok (.bl true) S
    | .bl false => mb σ S
    | _ => .no
theorem sW_and {r : List Expr} (ha : SndT X cad W a ma) (hb : SndW X cad W (.BoolOp .And (b :: r) pos) mb) : SndW X cad W (.BoolOp .And (a :: b :: r) pos) (andF ma mb) := by
  intro B ι σw S σ H Q sim sl hp whole pins s I
  refine (pw_and (pos := pos) (pt_sem (e := a)) (pw_sem (e := .BoolOp .And (b :: r) pos))).run whole pins s σ H Q I ?_
  refine ha B ι σw S σ H _ sim sl ((hp.bind).imp (fun d S' q => ?_) fun x S' q => q)
  cases d with
  | bl c =>
    refine ⟨c, rfl, fun ι' H' st sim' => ?_⟩
    cases c with
    | true => exact hb B ι' σw S' σ H' Q sim' (sl.mono sim st) (q.imp (fun d S2 q => q.after st) fun x S2 q => q.after st)
    | false =>
      obtain ⟨b', e, q⟩ := q
      cases e
      exact q ι' H' st sim'
  | _ => exact q.elim
theorem sW_or {r : List Expr} (ha : SndT X cad W a ma) (hb : SndW X cad W (.BoolOp .Or (b :: r) pos) mb) : SndW X cad W (.BoolOp .Or (a :: b :: r) pos) (orF ma mb) := by
  intro B ι σw S σ H Q sim sl hp whole pins s I
  refine (pw_or (pos := pos) (pt_sem (e := a)) (pw_sem (e := .BoolOp .Or (b :: r) pos))).run whole pins s σ H Q I ?_
  refine ha B ι σw S σ H _ sim sl ((hp.bind).imp (fun d S' q => ?_) fun x S' q => q)
  cases d with
  | bl c =>
    refine ⟨c, rfl, fun ι' H' st sim' => ?_⟩
    cases c with
    | false => exact hb B ι' σw S' σ H' Q sim' (sl.mono sim st) (q.imp (fun d S2 q => q.after st) fun x S2 q => q.after st)
    | true =>
      obtain ⟨b', e, q⟩ := q
      cases e
      exact q ι' H' st sim'
  | _ => exact q.elim
theorem sW_and1 (ha : SndT X cad W a ma) : SndW X cad W (.BoolOp .And [a] pos) ma := by
  intro B ι σw S σ H Q sim sl hp whole pins s I
  exact (pw_and1 (pos := pos) (pt_sem (e := a))).run whole pins s σ H Q I (ha B ι σw S σ H _ sim sl hp)
theorem sW_or1 (ha : SndT X cad W a ma) : SndW X cad W (.BoolOp .Or [a] pos) ma := by
  intro B ι σw S σ H Q sim sl hp whole pins s I
  exact (pw_or1 (pos := pos) (pt_sem (e := a))).run whole pins s σ H Q I (ha B ι σw S σ H _ sim sl hp)
theorem sE_one {op} (ha : SndE X cad W a ma) : SndE X cad W (.BoolOp op [a] pos) ma := by
  intro B ι σw S σ H Q sim sl hp
  exact fun pins s I => (pe_one (op := op) (pos := pos) (pe_sem (e := a))).run pins s σ H Q I (ha B ι σw S σ H _ sim sl hp)
theorem sE_and {r : List Expr} (ha : SndE X cad W a ma) (hb : SndE X cad W (.BoolOp .And (b :: r) pos) mb) : SndE X cad W (.BoolOp .And (a :: b :: r) pos) (andF ma mb) := by
  intro B ι σw S σ H Q sim sl hp
  refine tSem.of (pe_and (pos := pos) (pe_sem (e := a)) (pe_sem (e := .BoolOp .And (b :: r) pos))) ?_
  refine ha B ι σw S σ H _ sim sl ((hp.bind).imp (fun d S' q => ?_) fun x S' q => q)
  intro ι' v H' st sim' rv
  cases d with
  | bl c =>
    refine ⟨c, rv.blOf, ?_⟩
    cases c with
    | true => exact hb B ι' σw S' σ H' _ sim' (sl.mono sim st) (q.imp (fun d S2 q ι2 v2 H2 s2 sim2 r2 _ => q ι2 v2 H2 (st.trans s2) sim2 r2) fun x S2 q => q.after st)
    | false => exact fun _ => q ι' _ H' st sim' (.bl _)
  | _ => exact q.elim
theorem sE_or {r : List Expr} (ha : SndE X cad W a ma) (hb : SndE X cad W (.BoolOp .Or (b :: r) pos) mb) : SndE X cad W (.BoolOp .Or (a :: b :: r) pos) (orF ma mb) := by
  intro B ι σw S σ H Q sim sl hp
  refine tSem.of (pe_or (pos := pos) (pe_sem (e := a)) (pe_sem (e := .BoolOp .Or (b :: r) pos))) ?_
  refine ha B ι σw S σ H _ sim sl ((hp.bind).imp (fun d S' q => ?_) fun x S' q => q)
  intro ι' v H' st sim' rv
  cases d with
  | bl c =>
    refine ⟨c, rv.blOf, ?_⟩
    cases c with
    | false => exact hb B ι' σw S' σ H' _ sim' (sl.mono sim st) (q.imp (fun d S2 q ι2 v2 H2 s2 sim2 r2 _ => q ι2 v2 H2 (st.trans s2) sim2 r2) fun x S2 q => q.after st)
    | true => exact fun _ => q ι' _ H' st sim' (.bl _)
  | _ => exact q.elim
def ifF (mc ma mb : Slots → Store → R D) : Slots → Store → R D := fun σ S => (mc σ S).bind fun x S => match x with
    | .bl true => ma σ S
    | .bl false => mb σ S
    | _ => .no
theorem sE_if (hc : SndT X cad W c mc) (ha : SndE X cad W a ma) (hb : SndE X cad W b mb) : SndE X cad W (.IfExp c a b pos) (ifF mc ma mb) := by
  intro B ι σw S σ H Q sim sl hp
  refine tSem.of (pe_ifExp (pos := pos) (pt_sem (e := c)) (pe_sem (e := a)) (pe_sem (e := b))) ?_
  refine hc B ι σw S σ H _ sim sl ((hp.bind).imp (fun d S' q => ?_) fun x S' q => q)
  cases d with
  | bl k =>
    refine ⟨k, rfl, fun ι' H' st sim' => ?_⟩
    cases k with
    | true => exact ha B ι' σw S' σ H' _ sim' (sl.mono sim st) (q.imp (fun d S2 q ι2 v2 H2 s2 sim2 r2 _ => q ι2 v2 H2 (st.trans s2) sim2 r2) fun x S2 q => q.after st)
    | false => exact hb B ι' σw S' σ H' _ sim' (sl.mono sim st) (q.imp (fun d S2 q ι2 v2 H2 s2 sim2 r2 _ => q ι2 v2 H2 (st.trans s2) sim2 r2) fun x S2 q => q.after st)
  | _ => exact q.elim
theorem sT_if (hc : SndT X cad W c mc) (ha : SndT X cad W a ma) (hb : SndT X cad W b mb) : SndT X cad W (.IfExp c a b pos) (ifF mc ma mb) := by
  intro B ι σw S σ H Q sim sl hp pins s I
  show wpAny _ _ (do if ← isTrue c X.env (eval c X.env) then isTrue a X.env (eval a X.env) else isTrue b X.env (eval b X.env)) _ _ s
  refine wpAny_bind (thn (hc B ι σw S σ H (fun k H' => if k = true then sT X a σ H' Q else sT X b σ H' Q) sim sl ((hp.bind).imp (fun d S' q => ?_) fun x S' q => q) pins s I) fun k s1 ⟨H1, I1, q1⟩ => ?_)
  · cases d with
    | bl k =>
      refine ⟨k, rfl, fun ι' H' st sim' => ?_⟩
      cases k with
      | true => exact ha B ι' σw S' σ H' _ sim' (sl.mono sim st) (q.imp (fun d S2 q => q.after st) fun x S2 q => q.after st)
      | false => exact hb B ι' σw S' σ H' _ sim' (sl.mono sim st) (q.imp (fun d S2 q => q.after st) fun x S2 q => q.after st)
    | _ => exact q.elim
  · cases k with
    | true => exact q1 pins s1 I1
    | false => exact q1 pins s1 I1
theorem behind_not {op : CmpOp} {b : Expr} (h : notSet b = true) : behindInMarks op b = false := by
  cases b <;> first | rfl | (simp [notSet] at h)
theorem sT_cmp {op : Cop} (hu : X.A.units + 65 < cLine) (ha : SndE X cad W a ma) (hb : SndE X cad W b mb) (hs : notSet b = true) : SndT X cad W (.Compare a [pyCmp op] [b] pos) (fun σ S => (ma σ S).bind fun x S => (mb σ S).bind fun y S => cop op x y S) := by
  intro B ι σw S σ H Q sim sl hp pins s I
  refine (pt_cmpR (pos := pos) op_sem (pe_sem (e := a)) (pe_sem (e := b)) (behind_not hs)).run pins s σ H Q I ?_
  refine snd2 (Q := fun z H' => ∃ k, z = .bl k ∧ Q k H') ha hb (fun x y S => cop_noexc) (fun ι H S x y v u d S' sim rx ry h q => ?_) sim sl (hp.imp (fun d S' q => ?_) fun x S' q => q)
  · exact cop_ok hu sim rx ry h q
  · obtain ⟨k, rfl, q⟩ := q
    exact fun ι' v H' st sim' r => ⟨k, r.blOf, q ι' H' st sim'⟩
theorem sE_cmp {op : Cop} (hu : X.A.units + 65 < cLine) (ha : SndE X cad W a ma) (hb : SndE X cad W b mb) (hs : notSet b = true) : SndE X cad W (.Compare a [pyCmp op] [b] pos) (fun σ S => (ma σ S).bind fun x S => (mb σ S).bind fun y S => cop op x y S) := by
  intro B ι σw S σ H Q sim sl hp
  exact fun pins s I => (pe_cmpR (pos := pos) op_sem (pe_sem (e := a)) (pe_sem (e := b)) (behind_not hs)).run pins s σ H Q I (snd2 ha hb (fun x y S => cop_noexc) (fun ι H S x y v u d S' sim rx ry h q => cop_ok hu sim rx ry h q) sim sl hp)
end
end E1

set_option maxHeartbeats 1000000
/-! E1: attributes, slices, chains, isinstance, methods of built-in things. -/
namespace E1
open PySem PySem.Spec PyProof.Rows L2
section
variable {X : Cx} {cad : String → Option Addr} {W : WX} {e a b c : Expr} {es : List Expr} {m ma mb mc : Slots → Store → R D} {ms : Slots → Store → R (List D)} {pos : Pos}
variable {ι : List Addr} {B : Addr → Prop} {H : Hp} {S S' : Store} {σw : Slots} {σ : L2.St} {Q : VK}

/-! ### attributes -/
theorem lookF_mem {f : String} {y : D} : ∀ {ns : List String} {vs : List D}, lookF f ns vs = some y → f ∈ ns
  | [], [], h => by cases h
  | [], _ :: _, h => by cases h
  | _ :: _, [], h => by cases h
  | n :: ns, v :: vs, h => by
    simp only [lookF] at h
    by_cases e : n = f
    · exact List.mem_cons.mpr (.inl e.symm)
    · rw [if_neg e] at h; exact List.mem_cons.mpr (.inr (lookF_mem h))
def tAttX (K : PySem.W.Frag) (ta : TE) (f : Str) : TE := fun σ H Q => ta σ H fun x H1 => (∃ a C dx fs v, x = .ref a ∧ H1 a = some (.ins C dx fs) ∧ Cls K C ∧ NoAttr K C f ∧ fs.lookup f = some v ∧ Q v H1) ∨
  ∃ a C dx fs v, x = .ref a ∧ H1 a = some (ExV (.ref C) (some dx) a) ∧ H1 dx = some (.xd fs) ∧ ExcC K C ∧ NoAttr K C f ∧ fs.lookup f = some v ∧ Q v H1
theorem pe_attX {f : Str} {ta : TE} (he : PE X e ta) (hb : attributeBase e f X.env (eval e X.env) = eval e X.env) : PE X (.Attribute e f pos) (tAttX X.K ta f) := by
  refine ⟨fun pins s σ H Q I h => ?_⟩
  refine attr_of hb (thn (he.run pins s σ H _ I h) fun u s1 ⟨x, H1, I1, rx, hq⟩ => ?_)
  rcases hq with ⟨a, C, dx, fs, v, ex, ea, c, n, l, q⟩ | ⟨a, C, dd, fs, v, ex, ea, ed, T, hno, l, q⟩
  · subst ex
    obtain rfl : u = Value.ref a := rx
    exact getattr_ok I1 ea c n l fun u' s2 I2 ru => ⟨v, H1, I2, ru, q⟩
  · subst ex
    obtain rfl : u = Value.ref a := rx
    have ho : ObjOk X.prog X.w H1 s1.heap a (ExV (.ref C) (some dd) a) := I1.hok a _ ea
    obtain ⟨⟨oe, vs, ha, hz, hd⟩, _, _⟩ := ho
    have hx : ObjOk X.prog X.w H1 s1.heap dd (.xd fs) := I1.hok dd _ ed
    obtain ⟨mA, hns, hr⟩ := hx
    obtain ⟨od, ho, hl⟩ := lookIn_ns hns
    obtain ⟨u, hu, ru⟩ := RelO.some_of (v := v) (o := mA f) (by rw [← l]; exact hr f)
    have J : PySem.W.InstAt s1.heap a oe C (some od) := ⟨ha, hz.1, by unfold PySem.W.notCls; rw [hd] <;> rfl, by rw [hz.2]; exact ho⟩
    exact HandSPX.exc_get I1.kIn J T.hg T.hk T.hs (PySem.W.findObj_own T.hd hno rfl (by rw [hl, hu])) (handed_of ru) ⟨v, H1, I1.tok _, ru, q⟩
theorem rb_exn {d : D} {C : String} {ns : List String} {vs : List D} (e : rb S d = .exn C ns vs) : d = .exn C ns vs := by
  cases d with
  | ref i =>
    simp only [rb] at e
    cases e2 : S[i]? with
    | none => rw [e2] at e; cases e
    | some c => rw [e2] at e; cases c <;> cases e
  | _ => simpa [rb] using e
theorem snd_att {f : String} (hsu : notSuper a = true) (ha : SndE X cad W a ma) : SndE X cad W (.Attribute a (Str.ofString f) pos) (fun σ S => (ma σ S).bind fun x S => asE S (attF S x f)) := by
  intro B ι σw S σ H Q sim sl h
  refine tSem.of (pe_attX (pos := pos) (pe_sem (e := a)) (base_of hsu)) ?_
  refine snd1 ha (fun x S => asE_noexc) (fun ι H S x v d S' sim rx h q => ?_) sim sl h
  unfold attF at h
  split at h
  · rename_i C ns vs e
    obtain ⟨p, A, dx, fs, rfl, h2, h3, h4, h5, h6⟩ := rb_obj sim rx e
    cases e2 : lookF f ns vs with
    | none => rw [e2] at h; cases h
    | some y =>
      rw [e2] at h
      cases h
      obtain ⟨w, w1, w2⟩ := lookF_get ofString_inj e2 h4 h6
      exact .inl ⟨p, A, dx, fs, w, rfl, h3, h5.1, h5.2 f (lookF_mem e2), w1, fun _ => q ι w H .refl sim w2⟩
  · rename_i C ns vs e
    obtain rfl := rb_exn e
    cases e2 : lookF f ns vs with
    | none => rw [e2] at h; cases h
    | some y =>
      rw [e2] at h
      cases h
      cases rx with
      | exn0 _ _ _ => cases e2
      | @exn1 a A dx fs _ _ _ hC hh g hn hx r =>
        obtain ⟨w, w1, w2⟩ := lookF_get ofString_inj e2 hn r
        exact .inr ⟨a, A, dx, fs, w, rfl, hh, g, hx.1, hx.2 f (lookF_mem e2), w1, fun _ => q ι w H .refl sim w2⟩
  · cases h

/-! ### slices -/
def oSm (X : Cx) (e : Option Expr) : TO := fun σ H Q => ∀ (pins : List (Addr × Obj)) (s : Shared), Inv X pins σ H s →
    wpAny (model X.prog X.w) X.A (evalPart e X.env) (fun u s' => ∃ o H', Inv X pins σ H' s' ∧ IsPart u o ∧ Q o H') X.xe s
theorem po_sem {e : Option Expr} : PO X e (oSm X e) := ⟨fun pins s _ _ _ I h => h pins s I⟩
def SndO (X : Cx) (cad : String → Option Addr) (W : WX) (e : Option Expr) (m : Slots → Store → R (Option Int)) : Prop :=
  ∀ (B : Addr → Prop) (ι : List Addr) (σw : Slots) (S : Store) (σ : L2.St) (H : Hp) (Q : Option Int → Hp → Prop), Sim X.K cad ι B H S → Slo X.K cad ι B H σw σ →
    Post (m σw S) (fun o S' => ∀ ι' H', Step X.K ι H ι' H' → Sim X.K cad ι' B H' S' → Q o H') (ExQ X.K cad ι B H fun c d H' => W c d σ H') → oSm X e σ H Q
theorem sndO_none : SndO X cad W none (fun _ S => .ok none S) := by
  intro B ι σw S σ H Q sim sl h
  exact fun pins s I => po_none.run pins s σ H Q I (h ι H .refl sim)
theorem sndO_some (ha : SndE X cad W a ma) : SndO X cad W (some a) (fun σ S => (ma σ S).bind fun x S => match x with | .int i => .ok (some i) S | _ => .no) := by
  intro B ι σw S σ H Q sim sl h
  refine fun pins s I => (po_some (pe_sem (e := a))).run pins s σ H Q I (ha B ι σw S σ H _ sim sl ((h.bind).imp (fun d S' q => ?_) fun x S' q => q))
  intro ι' v H' st sim' r
  cases d with
  | int i => exact ⟨i, r.intOf, q ι' H' st sim'⟩
  | _ => exact q.elim
theorem snd_slc {box : Bool} {lo hi : Option Expr} {p2 : Pos} {ml mh : Slots → Store → R (Option Int)} (ha : SndE X cad W a ma) (hl : SndO X cad W lo ml) (hh : SndO X cad W hi mh) :
    SndE X cad W (.Subscript a (.Slice lo hi none p2) pos) (fun σ S => (ma σ S).bind fun x S => (ml σ S).bind fun l S => (mh σ S).bind fun h S => slcF box x l h S) := by
  intro B ι σw S σ H Q sim sl h
  refine fun pins s I => (pe_slice sl_sem (pe_sem (e := a)) po_sem po_sem).run pins s σ H Q I ?_
  refine ha B ι σw S σ H _ sim sl ((h.bind).imp (fun x S1 q1 => ?_) fun x S' q => q)
  intro ι1 v H1 s1 sim1 r1
  refine hl B ι1 σw S1 σ H1 _ sim1 (sl.mono sim s1) ((q1.bind).imp (fun l S2 q2 => ?_) fun x S' q => q.after s1)
  intro ι2 H2 s2 sim2
  refine hh B ι2 σw S2 σ H2 _ sim2 (sl.mono sim (s1.trans s2)) ((q2.bind).imp (fun h S3 q3 => ?_) fun x S' q => q.after (s1.trans s2))
  intro ι3 H3 s3 sim3
  obtain ⟨d, S4, e4, q4⟩ := q3.ok slcF_noexc
  exact slc_ok sim3 (r1.mono sim1 (s2.trans s3) fun _ q => q) e4 (q4.after ((s1.trans s2).trans s3))

/-! ### chains -/
def chF (o1 o2 : Cop) (ma mb mc : Slots → Store → R D) : Slots → Store → R D := fun σ S => (ma σ S).bind fun x S => (mb σ S).bind fun y S => (cop o1 x y S).bind fun r S => match r with
    | .bl true => (mc σ S).bind fun z S => cop o2 y z S
    | .bl false => .ok (.bl false) S
    | _ => .no
theorem last_not {o1 o2 : CmpOp} {b c : Expr} (h : notSet c = true) : lastMarks [o1, o2] [b, c] = false := by
  unfold lastMarks lastMarks
  exact behind_not h
theorem ch_red {o1 o2 : Cop} {Q : VK} (hu : X.A.units + 65 < cLine) (ha : SndE X cad W a ma) (hb : SndE X cad W b mb) (hc : SndE X cad W c mc) (sim : Sim X.K cad ι B H S) (sl : Slo X.K cad ι B H σw σ)
    (h : Post (chF o1 o2 ma mb mc σw S) (OkQ X.K cad ι B H Q) (ExQ X.K cad ι B H fun c d H' => W c d σ H')) : tChain (oSem X (compareOp (pyCmp o1))) (oSem X (compareOp (pyCmp o2))) (tSem X a) (tSem X b) (tSem X c) σ H Q := by
  refine ha B ι σw S σ H _ sim sl ((h.bind).imp (fun x S1 h1 => ?_) fun x S1 h1 => h1)
  intro ι1 v H1 s1 sim1 r1
  have sl1 := sl.mono sim s1
  refine hb B ι1 σw S1 σ H1 _ sim1 sl1 ((h1.bind).imp (fun y S2 h2 => ?_) fun x S2 h2 => h2.after s1)
  intro ι2 u H2 s2 sim2 r2
  have h2' := h2.bind
  obtain ⟨d, S3, e3, q3⟩ := h2'.ok cop_noexc
  refine cop_ok hu sim2 (r1.mono sim1 s2 fun _ q => q) r2 e3 ?_
  intro ι3 w H3 s3 sim3 r3
  cases d with
  | bl k =>
    refine ⟨k, r3.blOf, ?_⟩
    have st : Step X.K ι H ι3 H3 := (s1.trans s2).trans s3
    cases k with
    | false => exact q3 ι3 _ H3 st sim3 (.bl _)
    | true =>
      refine hc B ι3 σw S3 σ H3 _ sim3 (sl.mono sim st) ((q3.bind).imp (fun z S4 h4 => ?_) fun x S4 h4 => h4.after st)
      intro ι4 z4 H4 s4 sim4 r4
      obtain ⟨d5, S5, e5, q5⟩ := h4.ok cop_noexc
      exact cop_ok hu sim4 (r2.mono sim2 (s3.trans s4) fun _ q => q) r4 e5 (q5.after (st.trans s4))
  | _ => exact q3.elim
theorem sE_chain {o1 o2 : Cop} (hu : X.A.units + 65 < cLine) (ha : SndE X cad W a ma) (hb : SndE X cad W b mb) (hc : SndE X cad W c mc) (hs : notSet c = true) :
    SndE X cad W (.Compare a [pyCmp o1, pyCmp o2] [b, c] pos) (chF o1 o2 ma mb mc) := by
  intro B ι σw S σ H Q sim sl h
  exact fun pins s I => (pe_chain (pos := pos) op_sem op_sem (pe_sem (e := a)) (pe_sem (e := b)) (pe_sem (e := c)) (last_not hs)).run pins s σ H Q I (ch_red hu ha hb hc sim sl h)
theorem sT_chain {o1 o2 : Cop} (hu : X.A.units + 65 < cLine) (ha : SndE X cad W a ma) (hb : SndE X cad W b mb) (hc : SndE X cad W c mc) (hs : notSet c = true) :
    SndT X cad W (.Compare a [pyCmp o1, pyCmp o2] [b, c] pos) (chF o1 o2 ma mb mc) := by
  intro B ι σw S σ H Q sim sl h pins s I
  refine (pt_chain (pos := pos) op_sem op_sem (pe_sem (e := a)) (pe_sem (e := b)) (pe_sem (e := c)) (last_not hs)).run pins s σ H Q I ?_
  refine ch_red (Q := fun z H' => ∃ k, z = .bl k ∧ Q k H') hu ha hb hc sim sl (h.imp (fun d S' q => ?_) fun x S' q => q)
  obtain ⟨k, rfl, q⟩ := q
  exact fun ι' v H' st sim' r => ⟨k, r.blOf, q ι' H' st sim'⟩

/-! ### methods of built-in things -/
def mSem (X : Cx) (id : String) : V → List V → Hp → VK → Prop := fun x xs H Q => ∀ (pins : List (Addr × Obj)) (s : Shared) (σ : L2.St) (v : Value) (us : List Value), Inv X pins σ H s → RelV x v → Vals xs us → wpAny (model X.prog X.w) X.A (PySem.call (.builtin id) (v :: us)) (EP X pins σ Q) X.xe s
theorem mSem.of {id : String} {r : V → List V → Hp → VK → Prop} {x : V} {xs : List V} (h : MtR X id r) (q : r x xs H (fun v H' => NK X.K H' → Q v H')) : mSem X id x xs H Q := fun pins s σ v us I rx rxs =>
  thn (h pins s σ H x xs v us _ I rx rxs q) fun _ _ q => EP.nk q
def IsTy (X : Cx) (T : String) (x : V) (H : Hp) : Prop := ∀ (pins : List (Addr × Obj)) (s : Shared) (σ : L2.St) (v : Value), Inv X pins σ H s → RelV x v → s.TypeIs v T ∧ ∀ a, v = .ref a → ∃ ob, s.heap.get? a = some ob ∧ ob.dict = none
theorem pe_bmSem {o : Expr} {name : Str} {T id : String} {apos : Pos} (hns : ∀ y ∈ es, notStar y = true) (hl : es.length < 30) (hsu : notSuper o = true) (hline : (apos.endLine == pos.line) = true)
    (pa : PlainAttrs T) (slot : Slot T name id) (hty : typeOf (.builtin id) = pure (.type "method_descriptor"))
    (h : tSem X o σ H fun x H1 => IsTy X T x H1 ∧ (es = [] → mSem X id x [] H1 Q) ∧ (es ≠ [] → aSem X es σ H1 fun vs H2 => mSem X id x vs H2 Q)) : tSem X (.Call (.Attribute o name apos) es [] pos) σ H Q := fun pins s I => by
  have hfew : ((backTo pos (starEach es X.env)).all (fun x => !x.1) && (backToKw pos (keywordEach [] X.env)).all (fun x => x.1.isSome) && decide (es.length + ([] : List Keyword).length + (if ([] : List Keyword).isEmpty then 0 else 1) < 30)) = true := few_of (n := 0) hns hl
  cases es with
  | nil =>
    refine wpAny_Call_method0_late (base_of hsu) hline (thn (h pins s I) fun v s1 ⟨x, H1, I1, r1, ty, q1, _⟩ => ?_)
    obtain ⟨h1, h2⟩ := ty pins s1 σ v I1 r1
    exact ⟨T, id, pa, slot, hty, h1, h2, Calls.callWith_builtin rfl (PySem.evalArgs_none (q1 rfl pins s1 σ v [] I1 r1 .nil))⟩
  | cons e es =>
    refine wpAny_Call_method_late (base_of hsu) hfew hline rfl (thn (h pins s I) fun v s1 ⟨x, H1, I1, r1, ty, _, q1⟩ => ?_)
    obtain ⟨h1, h2⟩ := ty pins s1 σ v I1 r1
    refine ⟨T, id, pa, slot, hty, h1, h2, ?_⟩
    have hA := q1 (by simp) pos pins s1 I1
    rw [star_ns (hns e (by simp))] at hA ⊢
    refine Calls.callWith_builtin (by show (false || (backTo pos (starEach es X.env)).any (·.1)) = false; rw [star_plain fun x hx => hns x (by simp [hx])]; rfl) (Calls.evalArgs_plain ?_)
    exact thn hA fun us s2 ⟨vs, H2, I2, r2, q2⟩ => q2 pins s2 σ v us I2 r1 r2
theorem bmF_noexc {n : String} {box : Bool} {o : D} {vs : List D} : NoExc (bmF n box o vs S) := by
  intro x S'
  unfold bmF
  repeat' split
  all_goals simp
theorem cell_lst (sim : Sim X.K cad ι B H S) {i : Nat} {v : V} {xs : List D} (r : VRel X.K cad ι B H (.ref i) v) (h : S[i]? = some (.lst xs)) : ∃ p vs, v = .ref p ∧ ι[i]? = some p ∧ H p = some (.lst vs) ∧ VRels X.K cad ι B H xs vs := by
  cases r with
  | @ref i p hi =>
    cases sim.cell i _ p h hi with
    | lst g r => exact ⟨p, _, rfl, hi, g, r⟩
theorem set_lst (sim : Sim X.K cad ι B H S) {i : Nat} {p : Addr} {xs : List D} {vs : List V} (hi : ι[i]? = some p) (r : VRels X.K cad ι B H xs vs) (h0 : ∃ ws, H p = some (.lst ws)) (nk : NK X.K (upd H p (.lst vs))) :
    Sim X.K cad ι B (upd H p (.lst vs)) (S.set i (.lst xs)) ∧ Step X.K ι H ι (upd H p (.lst vs)) := by
  have hm : p ∈ ι := List.mem_of_getElem? hi
  have s : Step X.K ι H ι (upd H p (.lst vs)) := by
    refine ⟨⟨[], by simp⟩, fun a u h n => ?_, fun _ h n => absurd h n, fun a h => ?_⟩
    · rw [upd_ne (fun e => n (by rw [e]; exact hm))]; exact h
    · by_cases e : a = p
      · subst e; rw [upd_same]; simp
      · rw [upd_ne e]; exact h
  exact sim.write hi (fun _ e => by cases e) (.lst upd_same (r.mono sim s fun _ q => q)) nk
theorem NK.set {p : Addr} {u o : HO} {K : Frag} (nk : NK K H) (h : H p = some u) : NK K (upd H p o) := trivial
theorem VRels.erase : ∀ {ds : List D} {vs : List V} (i : Nat), VRels X.K cad ι B H ds vs → VRels X.K cad ι B H (ds.eraseIdx i) (vs.eraseIdx i)
  | _, _, _, .nil => .nil
  | _, _, 0, .cons _ t => t
  | _, _, i + 1, .cons h t => .cons h (VRels.erase i t)
theorem VRels.dropLast : ∀ {ds : List D} {vs : List V}, VRels X.K cad ι B H ds vs → VRels X.K cad ι B H ds.dropLast vs.dropLast
  | _, _, .nil => .nil
  | _, _, .cons h .nil => .nil
  | _, _, .cons h (.cons g t) => .cons h (VRels.dropLast (.cons g t))
theorem vrels0 {vs : List V} (r : VRels X.K cad ι B H [] vs) : vs = [] := by cases r; rfl

theorem bmT_at {m T id : String} (h : bmT m = some (T, id)) : PlainAttrs T ∧ Slot T (Str.ofString m) id ∧ typeOf (.builtin id) = pure (.type "method_descriptor") := by
  unfold bmT at h
  split at h
  · rename_i e; cases h; cases eq_of_beq e; exact ⟨F.plainAttrs_list, F.slot_list_append, F.type_list_append⟩
  split at h
  · rename_i e; cases h; cases eq_of_beq e; exact ⟨F.plainAttrs_list, F.slot_list_extend, F.type_list_extend⟩
  split at h
  · rename_i e; cases h; cases eq_of_beq e; exact ⟨F.plainAttrs_list, F.slot_list_pop, F.type_list_pop⟩
  split at h
  · rename_i e; cases h; cases eq_of_beq e; exact ⟨F.plainAttrs_list, F.slot_list_insert, F.type_list_insert⟩
  split at h
  · rename_i e; cases h; cases eq_of_beq e; exact ⟨F.plainAttrs_list, F.slot_list_clear, F.type_list_clear⟩
  split at h
  · rename_i e; cases h; cases eq_of_beq e; exact ⟨F.plainAttrs_list, F.slot_list_reverse, F.type_list_reverse⟩
  split at h
  · rename_i e; cases h; cases eq_of_beq e; exact ⟨F.plainAttrs_dict, F.slot_dict_get, F.type_dict_get⟩
  · cases h
theorem bmK_ty {m : String} {d : D} {x : V} (sim : Sim X.K cad ι B H S) (r : VRel X.K cad ι B H d x) (h : bmK m (rb S d) = true) : ∃ T id, bmT m = some (T, id) ∧ IsTy X T x H := by
  cases e : rb S d with
  | fl xs =>
    rw [e] at h
    obtain ⟨a, vs, rfl, h2, _⟩ := rb_fl sim r e
    have ty : IsTy X "list" (.ref a) H := fun pins s σ v I rx => tyV_is I rx (.inl ⟨rfl, vs, .of h2⟩)
    simp only [bmK, Bool.or_eq_true, beq_iff_eq] at h
    rcases h with ((((rfl | rfl) | rfl) | rfl) | rfl) | rfl <;> exact ⟨_, _, rfl, ty⟩
  | fd tk ks vs =>
    rw [e] at h
    obtain ⟨a, rfl, fd⟩ := rb_fd sim r e
    have ty : IsTy X "dict" (.ref a) H := fun pins s σ v I rx => by
      cases rx
      have d : IsD H a := by
        cases fd with
        | k g _ _ => exact .inl ⟨_, g⟩
        | t g _ _ => exact .inr ⟨_, g⟩
      obtain ⟨h1, h2, _⟩ := isD_at I d
      exact ⟨h1, h2⟩
    simp only [bmK, beq_iff_eq] at h
    subst h
    exact ⟨_, _, rfl, ty⟩
  | _ => rw [e] at h; cases h
theorem bmF_ok {n T id : String} {box : Bool} {o d : D} {vs : List D} {x : V} {xs : List V} (hu : X.A.units + 1 < cLine) (ht : bmT n = some (T, id)) (sim : Sim X.K cad ι B H S) (ro : VRel X.K cad ι B H o x) (r : VRels X.K cad ι B H vs xs)
    (h : bmF n box o vs S = .ok d S') (q : OkQ X.K cad ι B H Q d S') : mSem X id x xs H Q := by
  unfold bmF at h
  split at h
  · -- append
    cases ht
    obtain ⟨v, rfl, rx⟩ := vrels1 r
    split at h
    · rename_i ys e
      split at h
      · rename_i hz
        cases h
        obtain ⟨p, ws, rfl, hi, g, r1⟩ := cell_lst sim ro e
        obtain ⟨sim2, st⟩ := set_lst sim hi (r1.append (.cons rx .nil)) ⟨_, g⟩ (NK.set sim.nk g)
        exact mSem.of mt_append ⟨p, ws, v, rfl, rfl, g, by rw [← r1.length]; exact hz, fun _ => q ι _ _ st sim2 .non⟩
      · cases h
    · cases h
  · -- extend
    cases ht
    obtain ⟨v, rfl, rx⟩ := vrels1 r
    split at h
    · rename_i ys zs e e2
      split at h
      · rename_i hz
        cases h
        obtain ⟨p, ws, rfl, hi, g, r1⟩ := cell_lst sim ro e
        obtain ⟨p2, ws2, rfl, g2, r2⟩ := list_ofM sim rx e2
        obtain ⟨sim2, st⟩ := set_lst sim hi (r1.append r2) ⟨_, g⟩ (NK.set sim.nk g)
        exact mSem.of mt_extend ⟨p, p2, ws, ws2, rfl, rfl, g, g2, by rw [← r1.length, ← r2.length]; exact hz.1, fun _ => q ι _ _ st sim2 .non⟩
      · cases h
    · cases h
  · -- pop
    cases ht
    cases vrels0 r
    split at h
    · rename_i ys e
      split at h
      · rename_i y e2
        cases h
        obtain ⟨p, ws, rfl, hi, g, r1⟩ := cell_lst sim ro e
        obtain ⟨sim2, st⟩ := set_lst sim hi r1.dropLast ⟨_, g⟩ (NK.set sim.nk g)
        obtain ⟨v, h1, h2⟩ := r1.get e2
        exact mSem.of mt_pop ⟨p, ws, v, rfl, rfl, g, by rw [← r1.length]; exact h1, fun _ => q ι _ _ st sim2 (h2.mono sim st fun _ q => q)⟩
      · cases h
    · cases h
  · -- pop at
    cases ht
    obtain ⟨v, rfl, rx⟩ := vrels1 r
    cases rx.intOf
    split at h
    · rename_i ys e
      split at h
      · rename_i j e2
        split at h
        · rename_i y e3
          split at h
          · rename_i hz
            cases h
            obtain ⟨p, ws, rfl, hi, g, r1⟩ := cell_lst sim ro e
            obtain ⟨sim2, st⟩ := set_lst sim hi (r1.erase j) ⟨_, g⟩ (NK.set sim.nk g)
            obtain ⟨v, h1, h2⟩ := r1.get e3
            refine mSem.of mt_popAt ⟨p, ws, _, j, v, rfl, rfl, g, hz.1, hz.2, ?_, h1, fun _ => q ι _ _ st sim2 (h2.mono sim st fun _ q => q)⟩
            rw [ixN_eq, r1.length] at e2
            exact (ixN_seq e2).1
          · cases h
        · cases h
      · cases h
    · cases h
  · -- insert
    cases ht
    obtain ⟨v, w, rfl, rx, ry⟩ := vrels2 r
    cases rx.intOf
    split at h
    · rename_i ys e
      split at h
      · rename_i hz
        cases h
        obtain ⟨p, ws, rfl, hi, g, r1⟩ := cell_lst sim ro e
        obtain ⟨sim2, st⟩ := set_lst sim hi (((r1.take _).append (.cons ry .nil)).append (r1.drop _)) ⟨_, g⟩ (NK.set sim.nk g)
        exact mSem.of mt_insert ⟨p, ws, _, w, rfl, rfl, g, by rw [← r1.length]; exact hz.2.2, hz.1, hz.2.1, fun _ => q ι _ _ st sim2 .non⟩
      · cases h
    · cases h
  · -- clear
    cases ht
    cases vrels0 r
    split at h
    · rename_i ys e
      cases h
      obtain ⟨p, ws, rfl, hi, g, r1⟩ := cell_lst sim ro e
      obtain ⟨sim2, st⟩ := set_lst sim hi .nil ⟨_, g⟩ (NK.set sim.nk g)
      exact mSem.of mt_clear ⟨p, ws, rfl, rfl, g, fun _ => q ι _ _ st sim2 .non⟩
    · cases h
  · -- reverse
    cases ht
    cases vrels0 r
    split at h
    · rename_i ys e
      cases h
      obtain ⟨p, ws, rfl, hi, g, r1⟩ := cell_lst sim ro e
      obtain ⟨sim2, st⟩ := set_lst sim hi r1.rev ⟨_, g⟩ (NK.set sim.nk g)
      exact mSem.of mt_reverse ⟨p, ws, rfl, rfl, g, fun _ => q ι _ _ st sim2 .non⟩
    · cases h
  · -- get
    cases ht
    obtain ⟨v, rfl, rx⟩ := vrels1 r
    split at h
    · rename_i tk ks ws e
      obtain ⟨a, rfl, fd⟩ := rb_fd sim ro e
      split at h
      · rename_i j e2
        obtain ⟨r0, dg, _, hj⟩ := fd_get fd rx e2
        obtain ⟨y, y', e3, e4, ry⟩ := hj j rfl
        rw [e3] at h
        cases h
        intro pins s σ v' us I r1 rs
        obtain ⟨u, rfl, ru⟩ := rs.one
        cases r1
        exact d_get1 hu I dg ru fun w' s' I' rw' => ⟨y', H, I', by rw [e4] at rw'; exact rw', q ι _ H .refl sim ry⟩
      · rename_i e2
        obtain ⟨r0, dg, hn, _⟩ := fd_get fd rx e2
        cases h
        intro pins s σ v' us I r1 rs
        obtain ⟨u, rfl, ru⟩ := rs.one
        cases r1
        exact d_get1 hu I dg ru fun w' s' I' rw' => ⟨.non, H, I', by rw [hn rfl] at rw'; exact rw', q ι _ H .refl sim .non⟩
      · cases h
    · cases h
  · -- get with a default
    cases ht
    obtain ⟨v, w, rfl, rx, ry⟩ := vrels2 r
    split at h
    · rename_i tk ks ws e
      obtain ⟨a, rfl, fd⟩ := rb_fd sim ro e
      split at h
      · rename_i j e2
        obtain ⟨r0, dg, _, hj⟩ := fd_get fd rx e2
        obtain ⟨y, y', e3, e4, ry'⟩ := hj j rfl
        rw [e3] at h
        cases h
        intro pins s σ v' us I r1 rs
        obtain ⟨u, u2, rfl, ru, ru2⟩ := rs.two
        cases r1
        exact d_get2 hu I dg ru ru2 fun w' s' I' rw' => ⟨y', H, I', by rw [e4] at rw'; exact rw', q ι _ H .refl sim ry'⟩
      · rename_i e2
        obtain ⟨r0, dg, hn, _⟩ := fd_get fd rx e2
        cases h
        intro pins s σ v' us I r1 rs
        obtain ⟨u, u2, rfl, ru, ru2⟩ := rs.two
        cases r1
        exact d_get2 hu I dg ru ru2 fun w' s' I' rw' => ⟨w, H, I', by rw [hn rfl] at rw'; exact rw', q ι _ H .refl sim ry⟩
      · cases h
    · cases h
  · cases h
theorem snd_bm {o : Expr} {n T id : String} {box : Bool} {apos : Pos} (hb : bmT n = some (T, id)) (hu : X.A.units + 1 < cLine) (hns : ∀ y ∈ es, notStar y = true) (hl : es.length < 30) (hsu : notSuper o = true) (hline : (apos.endLine == pos.line) = true)
    (ho : SndE X cad W o m) (ha : SndA X cad W es ms) (h0 : es = [] → ∀ σ S, ms σ S = .ok [] S) :
    SndE X cad W (.Call (.Attribute o (Str.ofString n) apos) es [] pos) (fun σ S => (m σ S).bind fun x S => if bmK n (rb S x) then (ms σ S).bind fun vs S => bmF n box x vs S else .no) := by
  intro B ι σw S σ H Q sim sl h
  obtain ⟨pa, slot, hty⟩ := bmT_at hb
  refine pe_bmSem hns hl hsu hline pa slot hty (ho B ι σw S σ H _ sim sl ((h.bind).imp (fun x S1 h1 => ?_) fun x S1 h1 => h1))
  intro ι1 v H1 s1 sim1 r1
  by_cases hk : bmK n (rb S1 x) = true
  · rw [if_pos hk] at h1
    obtain ⟨T', id', hb', ty⟩ := bmK_ty sim1 r1 hk
    rw [hb] at hb'
    cases hb'
    refine ⟨ty, fun e0 => ?_, fun _ => ?_⟩
    · rw [h0 e0] at h1
      obtain ⟨d, S2, e2, q2⟩ := Post.ok (show Post (bmF n box x [] S1) _ _ from h1) bmF_noexc
      exact bmF_ok hu hb sim1 r1 .nil e2 (q2.after s1)
    · refine sndAf (Q := Q) (f := fun xs S => bmF n box x xs S) ha (fun ι2 H2 S2 xs vs s2 sim2 r2 h2 => ?_) sim1 (sl.mono sim s1) (h1.imp (fun d S' q => q.after s1) fun x S' q => q.after s1)
      obtain ⟨d, S3, e3, q3⟩ := h2.ok bmF_noexc
      exact bmF_ok hu hb sim2 (r1.mono sim1 s2 fun _ q => q) r2 e3 q3
  · rw [if_neg hk] at h1; exact h1.elim

theorem freeze_noexc {m : Nat} {d : D} : NoExc (freeze m d S) := by
  intro x S'
  unfold freeze
  split
  · split <;> simp
  · simp
theorem snd_frz (ha : SndE X cad W a ma) : SndE X cad W a (fun σ S => (ma σ S).bind fun d S' => freeze S.length d S') := by
  intro B ι σw S σ H Q sim sl h
  refine ha B ι σw S σ H _ sim sl ((h.bind).imp (fun d S1 h1 => ?_) fun x S1 h1 => h1)
  intro ι1 v H1 s1 sim1 r1
  obtain ⟨d', S2, e2, q2⟩ := Post.ok h1 freeze_noexc
  obtain ⟨h3, h4, h5⟩ := freeze_ok sim s1 sim1 r1 e2
  exact q2 ι v H1 h3 h4 h5

/-! ### isinstance -/
def tyVal (cad : String → Option Addr) (k : String) : Value := match cad k with | some A => .ref A | none => .type k
def tyV' (cad : String → Option Addr) (k : String) : V := match cad k with | some A => .ref A | none => .ty k
theorem clsV_of (k : String) : ClsV (tyV' cad k) (tyVal cad k) := by
  unfold tyV' tyVal
  cases cad k with
  | none => exact .ty k
  | some A => exact .own A
structure InsK (K : Frag) (A : Addr) : Prop where
  ha : PySem.W.findIn K (.ref A) "__class__" = some (some (.builtin "object.__class__"))
  hn : PySem.W.specialIn K (.builtin "object.__class__") "__get__" = some (some (.builtin "getset_descriptor.__get__"))
  htk : PySem.W.takesIn K (.builtin "object.__class__") = some true
  hm : PySem.W.mroIn K A (.type "object") = some true
def Kinds (cad : String → Option Addr) : Prop := ∀ k ∈ ["NoneType", "bool", "int", "str", "tuple", "list"], cad k = none
inductive TyE (K : Frag) (H : Hp) : V → Value → Prop
  | std {v : V} {t : Value} (h : TyX K H v t) : TyE K H v t
  | exn {a A : Addr} {d : Option Addr} (h : H a = some (ExV (.ref A) d a)) (g : ∀ dx, d = some dx → ∃ fs, H dx = some (.xd fs)) (hx : ExcC K A) : TyE K H (.ref a) (.ref A)
theorem kit_ofE {pins : List (Addr × Obj)} {s : Shared} {x : V} {u t : Value} (I : Inv X pins σ H s) (rx : RelV x u) (ty : TyE X.K H x t) : ∃ P : Heap → Prop, PySem.W.KitX X.K u t P ∧ P s.heap ∧ u ≠ .builtin "__main__.__loader__#opaque" := by
  cases ty with
  | std h => exact kit_of I rx h
  | @exn a A d h g hx =>
    obtain rfl : u = Value.ref a := rx
    have ho : ObjOk X.prog X.w H s.heap a (ExV (.ref A) d a) := I.hok a _ h
    obtain ⟨⟨oe, vs, ha, hz, hd⟩, _, _⟩ := ho
    have hc : (PySem.W.clsIn X.K A).isSome = true := by
      have := hx.hd
      unfold PySem.W.hasDictIn at this
      cases e : PySem.W.clsIn X.K A with
      | none => rw [e] at this; cases this
      | some _ => rfl
    cases d with
    | none =>
      have J : PySem.W.InstAt s.heap a oe A none := by
        obtain ⟨oc, od, oda, osl⟩ := oe
        obtain ⟨h1, h2⟩ := hz
        dsimp only at h1 h2 hd
        subst h1 h2 hd
        exact ⟨ha, rfl, rfl, trivial⟩
      exact ⟨_, PySem.W.kitx_exc hc hx.hg hx.hk hx.hs hx.ha hx.hn hx.ht hx.hm, J, fun z => nomatch z⟩
    | some dx =>
      obtain ⟨fs, hf⟩ := g dx rfl
      have hx2 : ObjOk X.prog X.w H s.heap dx (.xd fs) := I.hok dx _ hf
      obtain ⟨mA, hns, hr⟩ := hx2
      obtain ⟨od, ho, hl⟩ := lookIn_ns hns
      have J : PySem.W.InstAt s.heap a oe A (some od) := ⟨ha, hz.1, by unfold PySem.W.notCls; rw [hd] <;> rfl, by rw [hz.2]; exact ho⟩
      exact ⟨_, PySem.W.kitx_exc hc hx.hg hx.hk hx.hs hx.ha hx.hn hx.ht hx.hm, J, fun z => nomatch z⟩
def rIsiE (K : PySem.W.Frag) : List V → Hp → VK → Prop := fun xs H Q => ∃ (x c : V) (t u : Value) (b : Bool), xs = [x, c] ∧ ClsV c u ∧ TyE K H x t ∧ PySem.W.kitOne K t u = some b ∧ Q (.bl b) H
def rIsiTE (K : PySem.W.Frag) : List V → Hp → VK → Prop := fun xs H Q => ∃ (x : V) (tp : Addr) (cs : List V) (t : Value) (us : List Value) (b : Bool), xs = [x, .ref tp] ∧ H tp = some (.tup cs) ∧ Paired ClsV cs us ∧ TyE K H x t ∧ PySem.W.kitAny K t us = some b ∧ Q (.bl b) H
theorem call_isiE : CallR X (.builtin "isinstance") (rIsiE X.K) := by
  intro pins s σ H xs us Q I r h
  obtain ⟨x, c, t, u, b, rfl, k, ty, e, q⟩ := h
  obtain ⟨u1, u2, rfl, r1, r2⟩ := vals2 r
  have e2 := k.eq r2
  subst e2
  obtain ⟨P, Z, p, hx⟩ := kit_ofE I r1 ty
  exact PySem.W.kia_one Z I.kIn p e hx fun tk => ⟨.bl b, H, I.tok tk, rfl, q⟩
theorem call_isiTE : CallR X (.builtin "isinstance") (rIsiTE X.K) := by
  intro pins s σ H xs us Q I r h
  obtain ⟨x, tp, cs, t, ws, b, rfl, hT, k, ty, e, q⟩ := h
  obtain ⟨u1, u2, rfl, r1, r2⟩ := vals2 r
  cases (show u2 = Value.ref tp from r2)
  obtain ⟨P, Z, p, hx⟩ := kit_ofE I r1 ty
  obtain ⟨_, its, rv, o, h1, h2, n, h3⟩ := (show ObjOk X.prog X.w H s.heap tp (.tup cs) from I.hok tp _ hT)
  have e3 := ClsV.all k rv
  subst e3
  obtain ⟨oc, od, dt, sl⟩ := o
  simp only at h2 h3
  subst h2 h3
  exact PySem.W.kia_tup Z I.kIn p h1 e hx fun tk => ⟨.bl b, H, I.tok tk, rfl, q⟩
theorem kind_ty (hk : Kinds cad) (hi : ∀ C A, cad C = some A → Cls X.K A → InsK X.K A) (sim : Sim X.K cad ι B H S) {d : D} {v : V} {k : String} (r : VRel X.K cad ι B H d v) (h : kindOf S d = some k) : TyE X.K H v (tyVal cad k) := by
  have bt : ∀ {k : String}, k ∈ ["NoneType", "bool", "int", "str", "tuple", "list"] → tyVal cad k = .type k := fun {k} hm => by
    unfold tyVal; rw [hk k hm]
  have inst : ∀ {C : String} {A : Addr}, cad C = some A → tyVal cad C = .ref A := fun {C A} hc => by
    unfold tyVal; rw [hc]
  unfold kindOf at h
  cases r with
  | non => cases h; rw [bt (by simp)]; exact .std (.base .non)
  | bl b => cases h; rw [bt (by simp)]; exact .std (.base (.bl b))
  | int i => cases h; rw [bt (by simp)]; exact .std (.base (.int i))
  | str x ok => cases h; rw [bt (by simp)]; exact .std (.base (.str x))
  | tup hh r => cases h; rw [bt (by simp)]; exact .std (.base (.tup hh))
  | ktup hh =>
    cases h; rw [bt (by simp)]
    obtain ⟨o, its, n, h1, h2, _⟩ := hh
    exact .std (.kTuple h1 h2)
  | fl hh _ _ r => cases h; rw [bt (by simp)]; exact .std (.base (.lst hh))
  | scr hh =>
    cases h; rw [bt (by simp)]
    rcases hh with ⟨o, hh⟩ | ⟨o, its, n, h1, h2, _⟩
    · exact .std (.base (.frz hh))
    · exact .std (.kList h1 h2)
  | fdK => cases h
  | fdT => cases h
  | exn0 hC hh hx => cases h; rw [inst hC]; exact .exn hh (fun _ e => by cases e) hx
  | exn1 hC hh g hn hx r => cases h; rw [inst hC]; exact .exn hh (fun _ e => by cases e; exact ⟨_, g⟩) hx.1
  | obj hC hh _ _ hn hf r =>
    cases h; rw [inst hC]
    have z := hi _ _ hC hf.1
    exact .std (.base (.ins hh hf.1 z.ha z.hn z.htk z.hm))
  | @ref i a hj =>
    simp only [rbl, rb] at h
    cases e : S[i]? with
    | none => rw [e] at h; cases h
    | some c =>
      rw [e] at h
      cases sim.cell i c a e hj with
      | lst g r => cases h; rw [bt (by simp)]; exact .std (.base (.lst g))
      | dicK => cases h
      | dicT => cases h
      | ins hC g hn hf r =>
        cases h; rw [inst hC]
        have z := hi _ _ hC hf.1
        exact .std (.base (.ins g hf.1 z.ha z.hn z.htk z.hm))
theorem isTs_any {C : E1.Env} {k : String} (hC : ∀ t b, C.isa k t = some b → PySem.W.kitOne X.K (tyVal cad k) (tyVal cad t) = some b) {d : D} (hk : kindOf S d = some k) : ∀ {ts : List String} {b : Bool}, isTs C S d ts = some b →
    PySem.W.kitAny X.K (tyVal cad k) (ts.map (tyVal cad)) = some b
  | [], b, h => by cases h; rfl
  | t :: ts, b, h => by
    unfold isTs at h
    split at h
    · rename_i b1 b2 e1 e2
      cases h
      unfold isT at e1
      rw [hk] at e1
      refine kitAny_cons (hC t b1 e1) (fun z => ?_) fun z => ?_
      · subst z
        exact isTs_any hC hk e2
      · subst z; rfl
    · cases h
def NameTy (X : Cx) (cad : String → Option Addr) (t : String) : Prop :=
  (cad t = none ∧ X.mg (Str.ofString t) = none ∧ bootBuiltins (Str.ofString t) = some (.type t) ∧ Str.ofString t ≠ ("__name__" : Str)) ∨ ∃ A, cad t = some A ∧ X.mg (Str.ofString t) = some (.ref A)
theorem pe_ty {t : String} {p : Pos} (h : NameTy X cad t) (hg : Gl X (Str.ofString t)) (hd : (Str.ofString t == ("__debug__" : Str)) = false) : PE X (.Name (Str.ofString t) p) (tC (tyV' cad t)) := by
  unfold tyV'
  rcases h with ⟨h1, h2, h3, h4⟩ | ⟨A, h1, h2⟩
  · rw [h1]; exact pe_bltn hg h2 h3 rfl h4 hd
  · rw [h1]; exact pe_glob hg h2 rfl hd
theorem okTys_pa {t : Tab} {g : Gc} (hT : ∀ s ∈ t.tys, NameTy X cad s) (hG : ∀ x, okGlob g x = true → Gl X x ∧ (x == ("__debug__" : Str)) = false) : ∀ {ts : List String} {zs : List Expr}, okTys t g ts zs = true →
    ∃ u, PA X zs u ∧ ∀ σ H (Q : List V → Hp → Prop), Q (ts.map (tyV' cad)) H → u σ H Q
  | [], [], h => ⟨tNil, pa_nil, fun σ H Q q => q⟩
  | s :: ss, z :: zs, h => by
    unfold okTys at h
    split at h
    · rename_i hx hy; cases hx
    · rename_i s' ss' x p es hx hy
      cases hx
      cases hy
      simp only [Bool.and_eq_true] at h
      obtain ⟨⟨⟨h1, h2⟩, h3⟩, h4⟩ := h
      obtain rfl : x = Str.ofString s := eq_of_beq h1
      obtain ⟨g1, g2⟩ := hG _ h2
      obtain ⟨u, h5, h6⟩ := okTys_pa hT hG h4
      exact ⟨_, pa_cons (pe_ty (hT s (by simpa using h3)) g1 g2) h5 rfl, fun σ H Q q => h6 σ H _ q⟩
    · cases h
  | [], _ :: _, h => by cases h
  | _ :: _, [], h => by simp [okTys] at h
theorem TyX.laid {p : Addr} {o : HO} {v : V} {t : Value} (hp : H p = none) (h : TyX X.K H v t) : TyX X.K (upd H p o) v t := by
  have q : ∀ {a u}, H a = some u → (upd H p o) a = some u := fun {a u} e => by
    rw [upd_ne (fun z => by rw [z, hp] at e; cases e)]; exact e
  cases h with
  | base b =>
    cases b with
    | non => exact .base .non
    | bl b => exact .base (.bl b)
    | int i => exact .base (.int i)
    | str i => exact .base (.str i)
    | flt i => exact .base (.flt i)
    | lst e => exact .base (.lst (q e))
    | frz e => exact .base (.frz (q e))
    | tup e => exact .base (.tup (q e))
    | dK e => exact .base (.dK (q e))
    | dT e => exact .base (.dT (q e))
    | ins e c1 c2 c3 c4 c5 => exact .base (.ins (q e) c1 c2 c3 c4 c5)
  | byt b => exact .byt b
  | set e => exact .set (q e)
  | kList e c => exact .kList e c
  | kTuple e c => exact .kTuple e c
  | kDict e c => exact .kDict e c
  | fTuple e => exact .fTuple (q e)
  | fDict e => exact .fDict (q e)
theorem ExV.inj {u u' : Value} {d d' : Option Addr} {a a' : Addr} (h : a = a') (h1 : u = u') (h2 : d = d') : ExV u d a = ExV u' d' a' := by rw [h, h1, h2]
theorem TyE.laid {p : Addr} {o : HO} {v : V} {t : Value} (hp : H p = none) (h : TyE X.K H v t) : TyE X.K (upd H p o) v t := by
  have q : ∀ {a u}, H a = some u → (upd H p o) a = some u := fun {a u} e => by
    rw [upd_ne (fun z => by rw [z, hp] at e; cases e)]; exact e
  cases h with
  | std h => exact .std (TyX.laid hp h)
  | exn h g hx => exact .exn (q h) (fun dx e => let ⟨fs, z⟩ := g dx e; ⟨fs, q z⟩) hx
theorem kitAny_one {K : Frag} {t c : Value} {b : Bool} (h : PySem.W.kitAny K t [c] = some b) : PySem.W.kitOne K t c = some b := by
  unfold PySem.W.kitAny at h
  cases e : PySem.W.kitOne K t c with
  | none => rw [e] at h; cases h
  | some b1 =>
    rw [e] at h
    cases b1 with
    | true => exact h
    | false => exact h
theorem paired_tys : ∀ ts : List String, Paired ClsV (ts.map (tyV' cad)) (ts.map (tyVal cad))
  | [] => .nil
  | t :: ts => .cons (clsV_of t) (paired_tys ts)
theorem snd_isi {t : Tab} {g : Gc} {C : E1.Env} {z : Expr} {ts : List String} {p : Pos} (hk : Kinds cad) (hi : ∀ C A, cad C = some A → Cls X.K A → InsK X.K A) (hC : ∀ k t b, C.isa k t = some b → PySem.W.kitOne X.K (tyVal cad k) (tyVal cad t) = some b)
    (hT : ∀ s ∈ t.tys, NameTy X cad s) (hG : ∀ x, okGlob g x = true → Gl X x ∧ (x == ("__debug__" : Str)) = false) (hg : Gl X "isinstance") (hm : X.mg "isinstance" = none) (hn : notStar a = true) (ha : SndE X cad W a ma) (hne : ts ≠ []) (hlen : ts.length ≤ sizeLine)
    (hz : (match z with
        | .Tuple zs _ _ => okTys t g ts zs
        | .Name _ _ => okTys t g ts [z]
        | _ => false) = true) :
    SndE X cad W (.Call (.Name "isinstance" p) [a, z] [] pos) (fun σ S => (ma σ S).bind fun x S => asE S ((isTs C S x ts).map D.bl)) := by
  intro B ι σw S σ H Q sim sl h
  -- what an answer is
  have fin : ∀ {ι : List Addr} {H : Hp} {S : Store} {x : D} {v : V} {d : D} {S' : Store}, Sim X.K cad ι B H S → VRel X.K cad ι B H x v → asE S ((isTs C S x ts).map D.bl) = .ok d S' → ∃ k b, TyE X.K H v (tyVal cad k) ∧ PySem.W.kitAny X.K (tyVal cad k) (ts.map (tyVal cad)) = some b ∧ d = .bl b ∧ S' = S := by
    intro ι H S x v d S' sim rx h
    cases e : isTs C S x ts with
    | none => rw [e] at h; cases h
    | some b =>
      rw [e] at h
      cases h
      cases ek : kindOf S x with
      | none =>
        exfalso
        cases ts with
        | nil => exact hne rfl
        | cons t ts =>
          unfold isTs isT at e
          rw [ek] at e
          cases e
      | some k => exact ⟨k, b, kind_ty hk hi sim rx ek, isTs_any (hC k) ek e, rfl, rfl⟩
  split at hz
  · rename_i zs x1 x2
    obtain ⟨u, hu, hq⟩ := okTys_pa hT hG hz
    refine tSem.of (pe_callB (x := "isinstance") (p := p) (pos := pos) call_isiTE hg hm rfl (pa_cons (pe_sem (e := a)) (pa_cons (pe_tup hu) pa_nil rfl) (star_ns hn)) (by decide) (by decide) (star_ns hn) rfl) ?_
    refine snd1 ha (fun x S => asE_noexc) (fun ι H S x v d S' sim rx h q => ?_) sim sl h
    obtain ⟨k, b, ty, ka, rfl, rfl⟩ := fin sim rx h
    refine hq _ _ _ ⟨?_, fun tp htp => ?_⟩
    · rw [List.length_map]; exact hlen
    · exact ⟨v, tp, _, _, _, b, rfl, upd_same, paired_tys ts, TyE.laid htp ty, ka, fun nk => q ι _ _ (.laid htp) (sim.laid htp nk) (.bl b)⟩
  · rename_i x1 x2
    cases ts with
    | nil => exact absurd rfl hne
    | cons s ss =>
      simp only [okTys, Bool.and_eq_true] at hz
      obtain ⟨⟨⟨h1, h2⟩, h3⟩, h4⟩ := hz
      cases ss with
      | cons s2 ss => simp [okTys] at h4
      | nil =>
        obtain rfl : x1 = Str.ofString s := eq_of_beq h1
        obtain ⟨g1, g2⟩ := hG _ h2
        refine fun pins s' I => (pe_callB (x := "isinstance") (p := p) (pos := pos) call_isiE hg hm rfl (pa_cons (pe_sem (e := a)) (pa_cons (pe_ty (hT s (by simpa using h3)) g1 g2) pa_nil rfl) (star_ns hn)) (by decide) (by decide) (star_ns hn) rfl).run pins s' σ H Q I ?_
        refine snd1 ha (fun x S => asE_noexc) (fun ι H S x v d S' sim rx h q => ?_) sim sl h
        obtain ⟨k, b, ty, ka, rfl, rfl⟩ := fin sim rx h
        exact ⟨v, tyV' cad s, _, _, b, rfl, clsV_of s, ty, kitAny_one ka, q ι _ H .refl sim (.bl b)⟩
  · cases hz
end
end E1

set_option maxHeartbeats 1000000
/-! E1: targets. -/
namespace E1
open PySem PySem.Spec PyProof.Rows L2
section
variable {X : Cx} {cad : String → Option Addr} {W : WX} {e a b c : Expr} {es : List Expr} {m ma mb mc : Slots → Store → R D} {ms : Slots → Store → R (List D)} {pos : Pos}
variable {ι : List Addr} {B : Addr → Prop} {H : Hp} {S S' : Store} {σw : Slots} {σ : L2.St} {Q : VK}

/-! ### meanings -/
def gSem (X : Cx) (tg : Expr) : TG := fun v σ H Q => ∀ (pins : List (Addr × Obj)) (s : Shared) (u : Value), Inv X pins σ H s → RelV v u →
  wpAny (model X.prog X.w) X.A (assign tg X.env u) (fun _ s' => ∃ σ' H', Inv X pins σ' H' s' ∧ Q σ' H') X.xe s
theorem pg_sem {tg : Expr} : PG X tg (gSem X tg) := ⟨fun pins s _ _ _ u _ I r h => h pins s u I r⟩
theorem gNK {pins : List (Addr × Obj)} {Q : L2.St → Hp → Prop} {s' : Shared} (h : ∃ σ' H', Inv X pins σ' H' s' ∧ (NK X.K H' → Q σ' H')) : ∃ σ' H', Inv X pins σ' H' s' ∧ Q σ' H' := by
  obtain ⟨σ', H', I, q⟩ := h
  exact ⟨σ', H', I, q (Inv_NK I)⟩
theorem gSem.of {tg : Expr} {t : TG} {v : V} {σ : L2.St} {H : Hp} {Q : L2.St → Hp → Prop} (h : PG X tg t) (q : t v σ H (fun σ' H' => NK X.K H' → Q σ' H')) : gSem X tg v σ H Q := fun pins s u I r =>
  thn (h.run pins s σ H v u _ I r q) fun _ _ q => gNK q
def gsSem (X : Cx) (ts : List Expr) : TGs := fun vs σ H Q => ∀ (pins : List (Addr × Obj)) (s : Shared) (us : List Value), Inv X pins σ H s → Vals vs us →
  wpAny (model X.prog X.w) X.A (assignInOrder ((assignEach ts X.env).map (·.2)) us) (fun _ s' => ∃ σ' H', Inv X pins σ' H' s' ∧ Q σ' H') X.xe s
theorem pgs_sem {ts : List Expr} : PGs X ts (gsSem X ts) := ⟨fun pins s _ _ _ us _ I r h => h pins s us I r⟩
theorem gsSem.of {ts : List Expr} {t : TGs} {vs : List V} {σ : L2.St} {H : Hp} {Q : L2.St → Hp → Prop} (h : PGs X ts t) (q : t vs σ H (fun σ' H' => NK X.K H' → Q σ' H')) : gsSem X ts vs σ H Q := fun pins s us I r =>
  thn (h.run pins s σ H vs us _ I r q) fun _ _ q => gNK q
def Same (ns : List Nat) (σ σ' : L2.St) : Prop := σ'.length = σ.length ∧ ∀ j, j ∉ ns → σ'[j]? = σ[j]?
theorem Same.refl {ns : List Nat} {σ : L2.St} : Same ns σ σ := ⟨rfl, fun _ _ => rfl⟩
theorem Same.trans {ns ms : List Nat} {σ σ1 σ2 : L2.St} (h : Same ns σ σ1) (g : Same ms σ1 σ2) : Same (ns ++ ms) σ σ2 := ⟨g.1.trans h.1, fun j hj => by
  rw [List.mem_append, not_or] at hj
  rw [g.2 j hj.2, h.2 j hj.1]⟩
theorem Same.wipe {ns ms : List Nat} {σ σ' : L2.St} (h : Same ns σ σ') (hs : ∀ j ∈ ns, j ∈ ms) : L2.wipe σ' ms = L2.wipe σ ms := by
  have get : ∀ (σ : L2.St) (ms : List Nat) (j : Nat), (L2.wipe σ ms)[j]? = if j ∈ ms ∧ j < σ.length then some none else σ[j]? := by
    intro σ ms
    induction ms with
    | nil => intro j; simp [L2.wipe]
    | cons a ms ih =>
      intro j
      unfold L2.wipe
      by_cases e : a = j
      · subst e
        by_cases hl : a < σ.length
        · rw [List.getElem?_set_self (by rw [L2.wipe_length]; exact hl), if_pos ⟨by simp, hl⟩]
        · rw [List.getElem?_eq_none (by rw [List.length_set, L2.wipe_length]; omega), if_neg (fun z => hl z.2), List.getElem?_eq_none (by omega)]
      · rw [List.getElem?_set_ne e, ih j]
        simp [Ne.symm e]
  refine List.ext_getElem? fun j => ?_
  rw [get, get, h.1]
  by_cases hj : j ∈ ns
  · by_cases hl : j < σ.length
    · rw [if_pos ⟨hs j hj, hl⟩, if_pos ⟨hs j hj, hl⟩]
    · rw [if_neg (fun z => hl z.2), if_neg (fun z => hl z.2), List.getElem?_eq_none (by rw [h.1]; omega), List.getElem?_eq_none (by omega)]
  · rw [h.2 j hj]
def OkS (K : Frag) (cad : String → Option Addr) (ι : List Addr) (B : Addr → Prop) (H : Hp) (σ : L2.St) (ns : List Nat) (Q : L2.St → Hp → Prop) (σw' : Slots) (S' : Store) : Prop :=
  ∀ ι' σ' H', Step K ι H ι' H' → Sim K cad ι' B H' S' → Slo K cad ι' B H' σw' σ' → Same ns σ σ' → Q σ' H'
def SndG (X : Cx) (cad : String → Option Addr) (tg : Expr) (ns : List Nat) (m : D → Slots → Store → R Slots) : Prop :=
  ∀ (B : Addr → Prop) (ι : List Addr) (d : D) (v : V) (σw : Slots) (S : Store) (σ : L2.St) (H : Hp) (Q : L2.St → Hp → Prop), Sim X.K cad ι B H S → Slo X.K cad ι B H σw σ → VRel X.K cad ι B H d v →
    Post (m d σw S) (OkS X.K cad ι B H σ ns Q) (fun _ _ => False) → gSem X tg v σ H Q
def SndGs (X : Cx) (cad : String → Option Addr) (ts : List Expr) (ns : List Nat) (m : List D → Slots → Store → R Slots) : Prop :=
  ∀ (B : Addr → Prop) (ι : List Addr) (ds : List D) (vs : List V) (σw : Slots) (S : Store) (σ : L2.St) (H : Hp) (Q : L2.St → Hp → Prop), Sim X.K cad ι B H S → Slo X.K cad ι B H σw σ → VRels X.K cad ι B H ds vs →
    Post (m ds σw S) (OkS X.K cad ι B H σ ns Q) (fun _ _ => False) → gsSem X ts vs σ H Q
theorem Slo.set {i : Nat} {d : D} {v : V} (h : Slo X.K cad ι B H σw σ) (r : VRel X.K cad ι B H d v) (hi : i < σw.length) : Slo X.K cad ι B H (σw.set i (some d)) (σ.set i (some v)) := by
  refine ⟨by simp [h.1], fun j d' e => ?_⟩
  by_cases z : i = j
  · subst z
    rw [List.getElem?_set_self hi] at e
    cases e
    exact ⟨v, List.getElem?_set_self (by rw [← h.1]; exact hi), r⟩
  · rw [List.getElem?_set_ne z] at e
    obtain ⟨v', e1, e2⟩ := h.2 j d' e
    exact ⟨v', by rw [List.getElem?_set_ne z]; exact e1, e2⟩
theorem Slo.drop (h : Slo X.K cad ι B H σw σ) (i : Nat) : Slo X.K cad ι B H (σw.set i none) (σ.set i none) := by
  refine ⟨by simp [h.1], fun j d' e => ?_⟩
  by_cases z : i = j
  · subst z
    by_cases hi : i < σw.length
    · rw [List.getElem?_set_self hi] at e; cases e
    · rw [List.getElem?_eq_none (by simp; omega)] at e; cases e
  · rw [List.getElem?_set_ne z] at e
    obtain ⟨v', e1, e2⟩ := h.2 j d' e
    exact ⟨v', by rw [List.getElem?_set_ne z]; exact e1, e2⟩

/-! ### names, rows of targets -/
theorem sndG_name {i : Nat} {x : Str} {C : E1.Env} (hN : X.N.Nodup) (hi : X.N[i]? = some x) (hx : Loc X.env.scope x) (hf : X.fn x = true ∨ X.env.scope.names.lookup x = some .local) : SndG X cad (.Name x pos) [i] (asg C (.name i)) := by
  intro B ι d v σw S σ H Q sim sl r h
  refine gSem.of (pg_name (pos := pos) hN hi hx hf) ?_
  simp only [asg] at h
  by_cases hl : i < σw.length
  · rw [if_pos hl] at h
    exact fun _ => h ι _ H .refl sim (sl.set r hl) ⟨by simp, fun j hj => by rw [List.getElem?_set_ne (by simpa using Ne.symm (by simpa using hj))]⟩
  · rw [if_neg hl] at h; exact h.elim
theorem sndGs_nil {C : E1.Env} : SndGs X cad [] [] (asgs C .nil) := by
  intro B ι ds vs σw S σ H Q sim sl r h
  cases ds with
  | nil =>
    simp only [asgs] at h
    cases r
    exact gsSem.of pgs_nil ⟨rfl, fun _ => h ι _ H .refl sim sl .refl⟩
  | cons d ds => simp only [asgs] at h; exact h.elim
theorem each_ns {env : PySem.Env} (h : notStar e = true) : assignEach (e :: es) env = (false, assign e env) :: assignEach es env := by
  cases e <;> first | rfl | (simp [notStar] at h)
theorem sndGs_cons {C : E1.Env} {t : Tg} {ts : Tgs} {ns ms : List Nat} (hn : notStar e = true) (h1 : SndG X cad e ns (asg C t)) (h2 : SndGs X cad es ms (asgs C ts)) : SndGs X cad (e :: es) (ns ++ ms) (asgs C (.cons t ts)) := by
  intro B ι ds vs σw S σ H Q sim sl r h
  cases ds with
  | nil => simp only [asgs] at h; exact h.elim
  | cons d ds =>
    simp only [asgs] at h
    cases r with
    | @cons _ v _ vs r rr =>
      refine gsSem.of (pgs_cons (t := gSem X e) (u := gsSem X es) pg_sem pgs_sem (by rw [each_ns hn]; rfl)) ⟨v, vs, rfl, ?_⟩
      refine h1 B ι d v σw S σ H _ sim sl r ((h.bind).imp (fun σ1 S1 q => ?_) fun _ _ z => z)
      intro ι1 σ2 H1 s1 sim1 sl1 sm1
      refine h2 B ι1 ds vs σ1 S1 σ2 H1 _ sim1 sl1 (rr.mono sim s1 fun _ q => q) (q.imp (fun σ3 S3 q3 => ?_) fun _ _ z => z)
      intro ι3 σ4 H3 s3 sim3 sl3 sm3 _
      exact q3 ι3 σ4 H3 (s1.trans s3) sim3 sl3 (sm1.trans sm3)
theorem each_len {env : PySem.Env} : ∀ {es : List Expr}, (assignEach es env).length = es.length
  | [] => rfl
  | e :: es => by
    have := each_len (env := env) (es := es)
    cases e <;> (show (_ :: assignEach es env).length = _; simp [this])
theorem each_plain {env : PySem.Env} : ∀ {es : List Expr}, (∀ e ∈ es, notStar e = true) → (assignEach es env).findIdx? (·.1) = none
  | [], _ => rfl
  | e :: es, h => by
    rw [each_ns (h e (by simp)), List.findIdx?_cons]
    have := each_plain (env := env) (es := es) fun x hx => h x (List.mem_cons_of_mem _ hx)
    rw [this]; rfl
def lenG : Tgs → Nat
  | .nil => 0
  | .cons _ ts => lenG ts + 1
theorem asgs_length {C : E1.Env} {exn : Exn → Store → Prop} : ∀ {ts : Tgs} {ds : List D} {σw : Slots} {S : Store} {ok : Slots → Store → Prop}, (∀ x S, ¬ exn x S) → Post (asgs C ts ds σw S) ok exn → ds.length = lenG ts
  | .nil, [], _, _, _, _, _ => rfl
  | .nil, d :: ds, _, _, _, _, h => by simp only [asgs] at h; exact h.elim
  | .cons t ts, [], _, _, _, _, h => by simp only [asgs] at h; exact h.elim
  | .cons t ts, d :: ds, σw, S, ok, hx, h => by
    simp only [asgs] at h
    have h' := h.bind
    cases e : asg C t d σw S with
    | ok σ1 S1 =>
      rw [e] at h'
      have := asgs_length (ts := ts) (ds := ds) hx h'
      simp [lenG, this]
    | exc x S1 => rw [e] at h'; exact (hx _ _ h').elim
    | no => rw [e] at h'; exact h'.elim
theorem sndG_tup {C : E1.Env} {ts : Tgs} {k : Nat} {ns : List Nat} (hc : X.calm = true) (hl : es.length = lenG ts) (hns : ∀ e ∈ es, notStar e = true) (h1 : SndGs X cad es ns (asgs C ts)) : SndG X cad (.Tuple es k pos) ns (asg C (.tup ts)) := by
  intro B ι d v σw S σ H Q sim sl r h
  simp only [asg] at h
  split at h
  · rename_i xs hx
    obtain ⟨p, vs, rfl, hq, rs⟩ := seq_of sim r hx
    have hlen := asgs_length (exn := fun _ _ => False) (fun _ _ z => z) h
    have go := h1 B ι xs vs σw S σ H Q sim sl rs h
    have hvs : vs.length = es.length := by rw [← rs.length, hlen, hl]
    rcases hq with hq | hq
    · exact fun pins s u I rr => (pg_lst (pos := pos) (k := k) hc (pgs_sem (ts := es)) each_len (each_plain hns)).run pins s σ H _ u Q I rr ⟨p, vs, rfl, hq, hvs, go⟩
    · exact fun pins s u I rr => (pg_tup (pos := pos) (k := k) hc (pgs_sem (ts := es)) each_len (each_plain hns)).run pins s σ H _ u Q I rr ⟨p, vs, rfl, hq, hvs, go⟩
  · exact h.elim

/-! ### o.f = .. -/
theorem putF_eq {f : String} {y : D} {v : V} : ∀ {ns : List String} {vs : List D} {fs : List (Str × V)}, fs.map (·.1) = ns.map Str.ofString → VRels X.K cad ι B H vs (fs.map (·.2)) → VRel X.K cad ι B H y v →
    (L2.putF (Str.ofString f) v fs).map (·.1) = (E1.putF f y ns vs).1.map Str.ofString ∧ VRels X.K cad ι B H (E1.putF f y ns vs).2 ((L2.putF (Str.ofString f) v fs).map (·.2)) ∧ (∀ n ∈ (E1.putF f y ns vs).1, n = f ∨ n ∈ ns)
  | [], [], [], _, _, r => ⟨rfl, .cons r .nil, fun n h => .inl (by simpa [E1.putF] using h)⟩
  | [], _ :: _, [], _, rr, _ => by cases rr
  | [], _, p :: fs, h, _, _ => by cases h
  | n :: ns, _, [], h, _, _ => by cases h
  | n :: ns, [], p :: fs, _, rr, _ => by cases rr
  | n :: ns, x :: vs, (g, u) :: fs, h, rr, r => by
    simp only [List.map_cons, List.cons.injEq] at h
    obtain ⟨h1, h2⟩ := h
    cases rr with
    | cons ru rt =>
      by_cases e : n = f
      · have eg : g = Str.ofString f := by rw [← e]; exact h1
        refine ⟨?_, ?_, ?_⟩
        · simp only [L2.putF, E1.putF, if_pos e, if_pos eg, List.map_cons]; rw [h1, h2]
        · simp only [L2.putF, E1.putF, if_pos e, if_pos eg, List.map_cons]; exact .cons r rt
        · intro m hm; simp only [E1.putF, if_pos e] at hm; exact .inr hm
      · have eg : ¬ g = Str.ofString f := fun z => e (ofString_inj _ _ (h1.symm.trans z))
        obtain ⟨i1, i2, i3⟩ := putF_eq (f := f) h2 rt r
        refine ⟨?_, ?_, ?_⟩
        · simp only [L2.putF, E1.putF, if_neg e, if_neg eg, List.map_cons]; rw [h1, i1]
        · simp only [L2.putF, E1.putF, if_neg e, if_neg eg, List.map_cons]; exact .cons ru i2
        · intro m hm
          simp only [E1.putF, if_neg e, List.mem_cons] at hm
          rcases hm with rfl | hm
          · exact .inr (by simp)
          · rcases i3 m hm with q | q
            · exact .inl q
            · exact .inr (by simp [q])
def gAtt (K : Frag) (ta : TE) (f : Str) : TG := fun v σ H Q => ta σ H fun x H1 => ∃ a C dx fs, x = .ref a ∧ H1 a = some (.ins C dx fs) ∧ Cls K C ∧ NoAttr K C f ∧ fs.length < 1000 ∧ Q σ (upd H1 a (.ins C dx (L2.putF f v fs)))
theorem pg_att {o : Expr} {ta : TE} {f : Str} (ho : PE X o ta) : PG X (.Attribute o f pos) (gAtt X.K ta f) := by
  refine ⟨fun pins s σ H v u Q I r h => ?_⟩
  show wpAny _ _ (do let ov ← holding [u] (eval o X.env); standAt pos.atName; holding [u, ov] (setAttr ov f u); release [u, ov] []) _ _ s
  refine wpAny_bind (wpAny_holding (thn (ho.run pins s σ H _ I h) fun ov s1 ⟨x, H1, I1, r1, a, C, dx, fs, ex, ea, c, n, l, q⟩ => ?_))
  subst ex
  obtain rfl : ov = Value.ref a := r1
  refine wpAny_bind (wpAny_standAt (wpAny_bind (wpAny_holding (setattr_ok I1 ea c n l r fun s3 I3 => ?_))))
  exact wpAny_release ⟨σ, _, I3, q⟩
theorem write_cell (sim : Sim X.K cad ι B H S) {i : Nat} {p : Addr} {o : HO} {c : Cell} (hi : ι[i]? = some p) (ho : ∀ vs, o ≠ .tup vs) (h0 : H p ≠ none) (hc : Step X.K ι H ι (upd H p o) → CellR X.K cad ι B (upd H p o) c p) (nk : NK X.K (upd H p o)) :
    Sim X.K cad ι B (upd H p o) (S.set i c) ∧ Step X.K ι H ι (upd H p o) := by
  have hm : p ∈ ι := List.mem_of_getElem? hi
  have s : Step X.K ι H ι (upd H p o) := by
    refine ⟨⟨[], by simp⟩, fun a u h n => ?_, fun _ h n => absurd h n, fun a h => ?_⟩
    · rw [upd_ne (fun e => n (by rw [e]; exact hm))]; exact h
    · by_cases e : a = p
      · subst e; rw [upd_same]; simp
      · rw [upd_ne e]; exact h
  exact sim.write hi ho (hc s) nk
theorem sndG_att {C : E1.Env} {o : Ex} {f : String} (hfld : ∀ c A, cad c = some A → (C.fld c).contains f = true → NoAttr X.K A (Str.ofString f)) (ho : SndE X cad (fun _ _ _ _ => False) a (ev C o)) : SndG X cad (.Attribute a (Str.ofString f) pos) [] (asg C (.att o f)) := by
  intro B ι d v σw S σ H Q sim sl r h
  refine gSem.of (pg_att (pos := pos) (pe_sem (e := a))) ?_
  simp only [asg] at h
  refine ho B ι σw S σ H _ sim sl ((h.bind).imp (fun x S1 q1 => ?_) fun x S' q => q.elim)
  intro ι1 v1 H1 s1 sim1 r1
  cases x with
  | ref i =>
    cases r1 with
    | @ref _ p hi =>
      simp only [setAtt] at q1
      cases e : S1[i]? with
      | none => rw [e] at q1; exact q1.elim
      | some cl =>
        rw [e] at q1
        cases hcell : sim1.cell i cl p e hi with
        | lst _ _ => exact q1.elim
        | dicK _ _ _ => exact q1.elim
        | dicT _ _ _ => exact q1.elim
        | @ins _ A dx fs c ns vs hC g hn hf rs =>
          dsimp only at q1
          split at q1
          · rename_i hS hcc
            split at hcc
            · rename_i hz
              cases hcc
              have na := hfld c A hC hz.2
              have hl : fs.length < 1000 := by
                have := congrArg List.length hn
                simp only [List.length_map] at this
                omega
              refine ⟨p, A, dx, fs, rfl, g, hf.1, na, hl, fun nk => ?_⟩
              have rv := r.mono sim s1 fun _ q => q
              obtain ⟨sim2, st⟩ := write_cell (c := .ins c (E1.putF f d ns vs).1 (E1.putF f d ns vs).2) sim1 hi (fun _ e => by cases e) (by rw [g]; simp) (fun st => by
                obtain ⟨z1, z2, z3⟩ := putF_eq (f := f) hn (rs.mono sim1 st fun _ q => q) (rv.mono sim1 st fun _ q => q)
                exact .ins hC upd_same z1 ⟨hf.1, fun n hm => (z3 n hm).elim (fun e => e ▸ na) fun m => hf.2 n m⟩ z2) nk
              exact q1 ι1 σ _ (s1.trans st) sim2 ((sl.mono sim s1).mono sim1 st) .refl
            · cases hcc
          · exact q1.elim
  | _ => simp only [setAtt] at q1; exact q1.elim

/-! ### o[i] = .. -/
def sSem (X : Cx) : TSet := fun o i v H Q => ∀ (pins : List (Addr × Obj)) (s : Shared) (σ : L2.St) (ov iv u : Value), Inv X pins σ H s → RelV o ov → RelV i iv → RelV v u →
  wpAny (model X.prog X.w) X.A (setItem ov iv u) (fun _ s' => ∃ H', Inv X pins σ H' s' ∧ Q H') X.xe s
theorem set_sem : PSet X (sSem X) := fun pins s σ _ _ _ _ ov iv u _ I r1 r2 r3 h => h pins s σ ov iv u I r1 r2 r3
theorem sSem.of {t : TSet} {o i v : V} {Q : Hp → Prop} (h : PSet X t) (q : t o i v H (fun H' => NK X.K H' → Q H')) : sSem X o i v H Q := fun pins s σ ov iv u I r1 r2 r3 =>
  thn (h pins s σ H o i v ov iv u _ I r1 r2 r3 q) fun _ _ ⟨H', I', q⟩ => ⟨H', I', q (Inv_NK I')⟩
theorem putK_eq {κ : Type} [DecidableEq κ] (dk : D → κ → Prop) {k d : D} {key : κ} {v : V} (hd : ∀ x a, dk x a → deqB x k = decide (a = key)) : ∀ {ks vs : List D} {kvs : List (κ × V)}, (∀ (i : Nat) (x : D) (p : κ × V), ks[i]? = some x → kvs[i]? = some p → dk x p.1) → ks.length = kvs.length → VRels X.K cad ι B H vs (kvs.map (·.2)) → VRel X.K cad ι B H d v →
    VRels X.K cad ι B H (putD k d ks vs) ((kvs.map fun kv => if kv.1 = key then (kv.1, v) else kv).map (·.2)) ∧ (kvs.map fun kv => if kv.1 = key then (kv.1, v) else kv).map (·.1) = kvs.map (·.1) ∧ (findKey k ks).isSome = kvs.any (fun kv => decide (kv.1 = key))
  | [], vs, [], _, _, rr, r => by cases vs with
    | nil => exact ⟨.nil, rfl, rfl⟩
    | cons _ _ => cases rr
  | [], _, _ :: _, _, hl, _, _ => by simp at hl
  | _ :: _, _, [], _, hl, _, _ => by simp at hl
  | x :: ks, vs, p :: kvs, h, hl, rr, r => by
    cases rr with
    | @cons y _ vs _ ru rt =>
      obtain ⟨i1, i2, i3⟩ := putK_eq dk hd (ks := ks) (kvs := kvs) (fun i x p e1 e2 => h (i + 1) x p (by simpa using e1) (by simpa using e2)) (by simpa using hl) rt r
      have hx := hd x p.1 (h 0 x p rfl rfl)
      by_cases e : p.1 = key
      · refine ⟨?_, ?_, ?_⟩
        · simp only [putD, hx, e, decide_true, if_true, List.map_cons]; exact .cons r i1
        · simp only [List.map_cons, e, if_true, i2]
        · simp [findKey, hx, e]
      · refine ⟨?_, ?_, ?_⟩
        · simp only [putD, hx, e, decide_false, List.map_cons, if_neg e]; exact .cons ru i1
        · simp only [List.map_cons, if_neg e, i2]
        · simp [findKey, hx, e, i3]
theorem isKey_K {k : D} {y : V} (rk : VRel X.K cad ι B H k y) (h : isKey false k = true) : ∃ key, keyD k = some key ∧ y = kV key := by
  cases k with
  | int i => cases rk.intOf; exact ⟨.inl i, rfl, rfl⟩
  | str i => cases rk.strOf; exact ⟨.inr i, rfl, rfl⟩
  | _ => exact absurd h (by simp [isKey])
theorem isKey_T {k : D} {y : V} (rk : VRel X.K cad ι B H k y) (h : isKey true k = true) : ∃ ds key b, k = .tup ds ∧ keysD ds = some key ∧ y = .ref b ∧ H b = some (.tup (key.map kV)) ∧ VRels X.K cad ι B H ds (key.map kV) := by
  obtain ⟨d, ds, rfl, hs⟩ : ∃ d ds, k = .tup (d :: ds) ∧ (d :: ds).all isStrD = true := by
    cases k with
    | tup xs =>
      cases xs with
      | nil => exact absurd h (by simp [isKey])
      | cons d ds => exact ⟨d, ds, rfl, h⟩
    | _ => exact absurd h (by simp [isKey])
  obtain ⟨b, ws, rfl, hb, rs⟩ : ∃ b ws, y = .ref b ∧ H b = some (.tup ws) ∧ VRels X.K cad ι B H (d :: ds) ws := by
    generalize hg : (D.tup (d :: ds)) = g at rk
    cases rk with
    | tup h r => cases hg; exact ⟨_, _, rfl, h, r⟩
    | @ktup a ns h =>
      cases hg2 : ns with
      | nil => rw [hg2] at hg; cases hg
      | cons n ns' =>
        rw [hg2, List.map_cons] at hg
        injection hg with hg
        injection hg with h1 _
        subst h1
        simp [isStrD] at hs
    | _ => cases hg
  obtain ⟨key, e1, rfl⟩ := keysD_str rs hs
  exact ⟨_, key, b, rfl, e1, rfl, hb, rs⟩
theorem keysD_len : ∀ {ks : List D} {kk : List Key}, keysD ks = some kk → ks.length = kk.length ∧ ∀ (i : Nat) x p, ks[i]? = some x → kk[i]? = some p → keyD x = some p
  | [], kk, h => by cases h; exact ⟨rfl, fun i x p e => by simp at e⟩
  | d :: r, kk, h => by
    simp only [keysD] at h
    split at h
    · rename_i k ks h1 h2
      cases h
      obtain ⟨i1, i2⟩ := keysD_len h2
      refine ⟨by simp [i1], fun i x p e1 e2 => ?_⟩
      cases i with
      | zero => simp at e1 e2; subst e1; subst e2; exact h1
      | succ i => exact i2 i x p (by simpa using e1) (by simpa using e2)
    · cases h
theorem setDic_ok {tk : Bool} {ks vs : List D} {k d : D} {y v : V} {p : Addr} {i : Nat} {w : List D × List D} {Q : Hp → Prop} (hu : X.A.units + 1 < cLine) (sim : Sim X.K cad ι B H S) (hi : ι[i]? = some p) (hc : CellR X.K cad ι B H (.dic tk ks vs) p) (rk : VRel X.K cad ι B H k y) (r : VRel X.K cad ι B H d v)
    (h : setDic tk ks vs k d = some w) (q : ∀ H', Step X.K ι H ι H' → Sim X.K cad ι B H' (S.set i (.dic tk w.1 w.2)) → Q H') : sSem X (.ref p) y v H Q := by
  refine sSem.of (set_dict hu) ?_
  unfold setDic at h
  split at h
  · rename_i hk
    cases hc with
    | @dicK _ kvs ks vs g rks rs =>
      obtain ⟨key, e1, rfl⟩ := isKey_K rk hk.1
      have rks' : keysD ks = some (kvs.map (·.1)) := keysD_of (by rw [List.map_map]; exact rks)
      obtain ⟨l1, l2⟩ := keysD_len rks'
      obtain ⟨z1, z2, z3⟩ := putK_eq (X := X) (cad := cad) (ι := ι) (B := B) (H := H) (fun x a => keyD x = some a) (k := k) (d := d) (key := key) (v := v) (fun x a hx => deqB_key hx e1) (ks := ks) (kvs := kvs)
        (fun i x p e1 e2 => l2 i x p.1 e1 (by rw [List.getElem?_map, e2]; rfl)) (by simpa using l1) rs r
      have hlen : kvs.length < sizeLine := by
        have : ks.length = kvs.length := by simpa using l1
        rw [← this]; exact hk.2
      refine ⟨p, _, rfl, .k g hlen, fun nk => ?_⟩
      cases ef : findKey k ks with
      | some j =>
        rw [ef] at h; cases h
        rw [ef] at z3
        have hp : putK kvs key v = kvs.map (fun kv => if kv.1 = key then (kv.1, v) else kv) := by unfold putK; rw [← z3]; rfl
        rw [hp] at nk ⊢
        obtain ⟨sim2, st⟩ := write_cell (c := .dic false ks (putD k d ks vs)) sim hi (fun _ e => by cases e) (by rw [g]; simp) (fun st => .dicK upd_same (by
          have e : (kvs.map (fun kv => if kv.1 = key then (kv.1, v) else kv)).map (fun p => kV p.1) = kvs.map fun p => kV p.1 := by
            have := congrArg (List.map kV) z2
            simpa only [List.map_map, Function.comp_def] using this
          rw [e]; exact rks.mono sim st fun _ q => q) (z1.mono sim st fun _ q => q)) nk
        exact q _ st sim2
      | none =>
        rw [ef] at h; cases h
        rw [ef] at z3
        have hp : putK kvs key v = kvs ++ [(key, v)] := by unfold putK; rw [← z3]; rfl
        rw [hp] at nk ⊢
        obtain ⟨sim2, st⟩ := write_cell (c := .dic false (ks ++ [k]) (vs ++ [d])) sim hi (fun _ e => by cases e) (by rw [g]; simp) (fun st => .dicK upd_same (by
          rw [List.map_append]; exact (rks.append (.cons rk .nil)).mono sim st fun _ q => q) (by rw [List.map_append]; exact (rs.append (.cons r .nil)).mono sim st fun _ q => q)) nk
        exact q _ st sim2
    | @dicT _ kvs ks vs g rks rs =>
      obtain ⟨ds, key, b, rfl, e1, rfl, hb, rd⟩ := isKey_T rk hk.1
      have rks' : ks.map keysD = (kvs.map (·.1)).map some := keysDs_of (by rw [List.map_map]; exact rks)
      have l1 : ks.length = kvs.length := by have := congrArg List.length rks'; simpa using this
      obtain ⟨z1, z2, z3⟩ := putK_eq (X := X) (cad := cad) (ι := ι) (B := B) (H := H) (fun x a => ∃ zs, x = .tup zs ∧ keysD zs = some a) (k := .tup ds) (d := d) (key := key) (v := v) (fun x a hx => by
          obtain ⟨zs, rfl, hz⟩ := hx
          simp only [deqB]; exact deqB_keys hz e1) (ks := ks.map .tup) (kvs := kvs)
        (fun i x p e1 e2 => by
          rw [List.getElem?_map] at e1
          obtain ⟨zs, q1, rfl⟩ := Option.map_eq_some_iff.mp e1
          refine ⟨zs, rfl, ?_⟩
          have h3 := congrArg (fun l => l[i]?) rks'
          simp only [List.getElem?_map, q1, e2, Option.map_some] at h3
          exact Option.some.inj h3) (by simpa using l1) rs r
      have hlen : kvs.length < sizeLine := by
        have h2 := hk.2
        simp only [List.length_map] at h2
        rw [← l1]; exact h2
      refine ⟨p, _, rfl, .t g hb hlen, fun nk => ?_⟩
      cases ef : findKey (.tup ds) (ks.map .tup) with
      | some j =>
        rw [ef] at h; cases h
        rw [ef] at z3
        have hp : putK kvs key v = kvs.map (fun kv => if kv.1 = key then (kv.1, v) else kv) := by unfold putK; rw [← z3]; rfl
        rw [hp] at nk ⊢
        obtain ⟨sim2, st⟩ := write_cell (c := .dic true (ks.map .tup) (putD (.tup ds) d (ks.map .tup) vs)) sim hi (fun _ e => by cases e) (by rw [g]; simp) (fun st => .dicT upd_same (by
          have e : (kvs.map (fun kv => if kv.1 = key then (kv.1, v) else kv)).map (fun p => p.1.map kV) = kvs.map fun p => p.1.map kV := by
            have := congrArg (List.map fun k : List Key => k.map kV) z2
            simpa only [List.map_map, Function.comp_def] using this
          rw [e]; exact rks.mono sim st fun _ q => q) (z1.mono sim st fun _ q => q)) nk
        exact q _ st sim2
      | none =>
        rw [ef] at h; cases h
        rw [ef] at z3
        have hp : putK kvs key v = kvs ++ [(key, v)] := by unfold putK; rw [← z3]; rfl
        rw [hp] at nk ⊢
        have ek : ks.map D.tup ++ [D.tup ds] = (ks ++ [ds]).map .tup := by simp
        have ra : VRelss X.K cad ι B H (ks ++ [ds]) ((kvs ++ [(key, v)]).map fun p => p.1.map kV) := by
          have app : ∀ {a : List (List D)} {b : List (List V)}, VRelss X.K cad ι B H a b → VRelss X.K cad ι B H (a ++ [ds]) (b ++ [key.map kV]) := by
            intro a
            induction a with
            | nil => intro b z; cases z; exact .cons rd .nil
            | cons _ _ ih => intro b z; cases z with
              | cons h t => exact .cons h (ih t)
          rw [List.map_append]
          exact app rks
        obtain ⟨sim2, st⟩ := write_cell (c := .dic true ((ks ++ [ds]).map .tup) (vs ++ [d])) sim hi (fun _ e => by cases e) (by rw [g]; simp) (fun st => .dicT upd_same (ra.mono sim st fun _ q => q)
          (by rw [List.map_append]; exact (rs.append (.cons r .nil)).mono sim st fun _ q => q)) nk
        rw [ek] at q
        exact q _ st sim2
  · cases h
theorem setSub_ok {o k d : D} {x y v : V} {S' : Store} {Q : Hp → Prop} (hu : X.A.units + 1 < cLine) (sim : Sim X.K cad ι B H S) (ro : VRel X.K cad ι B H o x) (rk : VRel X.K cad ι B H k y) (r : VRel X.K cad ι B H d v)
    (h : setSub S o k d = some S') (q : ∀ H', Step X.K ι H ι H' → Sim X.K cad ι B H' S' → Q H') : sSem X x y v H Q := by
  unfold setSub at h
  split at h
  · rename_i i
    split at h
    · rename_i xs e
      obtain ⟨p, ws, rfl, hi, g, r1⟩ := cell_lst sim ro e
      split at h
      · rename_i n
        cases rk.intOf
        obtain ⟨j, hj, rfl⟩ := Option.map_eq_some_iff.mp h
        refine sSem.of set_list ⟨p, ws, n, j, rfl, rfl, g, ?_, fun nk => ?_⟩
        · rw [← r1.length]; exact hj
        · obtain ⟨sim2, st⟩ := set_lst sim hi (r1.set r j) ⟨_, g⟩ nk
          exact q _ st sim2
      · cases h
    · rename_i tk ks vs e
      obtain ⟨w, hw, rfl⟩ := Option.map_eq_some_iff.mp h
      cases ro with
      | @ref _ p hi => exact setDic_ok hu sim hi (sim.cell i _ p e hi) rk r hw q
    · cases h
  · cases h
theorem sndG_sub {C : E1.Env} {o i : Ex} (hu : X.A.units + 1 < cLine) (hs : notSlice b = true) (ho : SndE X cad (fun _ _ _ _ => False) a (ev C o)) (hi : SndE X cad (fun _ _ _ _ => False) b (ev C i)) : SndG X cad (.Subscript a b pos) [] (asg C (.sub o i)) := by
  intro B ι d v σw S σ H Q sim sl r h
  refine gSem.of (pg_sub (pos := pos) (pe_sem (e := a)) (pe_sem (e := b)) set_sem (fun v => by cases b <;> first | rfl | (simp [notSlice] at hs))) ?_
  simp only [asg] at h
  refine ho B ι σw S σ H _ sim sl ((h.bind).imp (fun x S1 q1 => ?_) fun x S' q => q.elim)
  intro ι1 v1 H1 s1 sim1 r1
  refine hi B ι1 σw S1 σ H1 _ sim1 (sl.mono sim s1) ((q1.bind).imp (fun x S1 q1 => ?_) fun x S' q => q.elim)
  intro ι2 v2 H2 s2 sim2 r2
  split at q1
  · rename_i S3 hS
    refine setSub_ok hu sim2 (r1.mono sim1 s2 fun _ q => q) r2 (r.mono sim (s1.trans s2) fun _ q => q) hS fun H3 st sim3 => fun nk => ?_
    exact q1 ι2 σ H3 ((s1.trans s2).trans st) sim3 (((sl.mono sim s1).mono sim1 s2).mono sim2 st) .refl
  · exact q1.elim
end
end E1

set_option maxHeartbeats 1000000
/-! E1: what loops walk. -/
namespace E1
open PySem PySem.Spec PyProof.Rows L2
abbrev ItL := L2.It
section
variable {X : Cx} {cad : String → Option Addr} {W : WX} {tg e a b c : Expr} {es : List Expr} {m ma mb mc : Slots → Store → R D} {ms : Slots → Store → R (List D)} {p pos : Pos}
variable {ι : List Addr} {B : Addr → Prop} {H : Hp} {S S' : Store} {σw : Slots} {σ : L2.St} {Q : VK}

def iSem (X : Cx) (tg iter : Expr) : TI := fun σ H R => ∀ (pins : List (Addr × Obj)) (s : Shared), Inv X pins σ H s →
  wpAny (model X.prog X.w) X.A (eval iter X.env) (fun v s1 => wpAny (model X.prog X.w) X.A (pyIter v) (PIE X pins σ tg R) X.xe s1) X.xe s
theorem pi_sem {iter : Expr} : PI X tg iter (iSem X tg iter) := ⟨fun pins s _ _ _ I h => h pins s I⟩
theorem iSem.of {iter : Expr} {t : TI} {σ : L2.St} {H : Hp} {R : ItL → Hp → Prop} (h : PI X tg iter t) (q : t σ H (fun J H' => NK X.K H' → R J H')) : iSem X tg iter σ H R := fun pins s I =>
  thn (h.run pins s σ H _ I q) fun v s1 h1 => thn h1 fun itv s2 ⟨it, fp, tn, J, H', e, I', T, t0, f, q⟩ => ⟨it, fp, tn, J, H', e, I', T, t0, f, q (Inv_NK I')⟩

def WalkAt (K : Frag) (cad : String → Option Addr) (B : Addr → Prop) (J : ItL) (xs : List D) (ck : Option (Nat × List D)) (ι0 : List Addr) (H0 : Hp) : Prop :=
  ∀ (B' : Addr → Prop) (ι : List Addr) (H : Hp) (S : Store), (∀ a, B a → B' a) → Step K ι0 H0 ι H → Sim K cad ι B' H S → (∀ a, B' a → ¬ B a → H0 a = none) → stands S ck →
    (∀ i, xs.length ≤ i → J.stop i H) ∧ ∀ i x, xs[i]? = some x → J.go i H ∧ ∀ v H', J.yld i H v H' → NK K H' → Step K ι H ι H' ∧ Sim K cad ι B' H' S ∧ VRel K cad ι B' H' x v
def SndI (X : Cx) (cad : String → Option Addr) (W : WX) (tg iter : Expr) (m : Slots → Store → R (List D × Option (Nat × List D))) : Prop :=
  ∀ (B : Addr → Prop) (ι : List Addr) (σw : Slots) (S : Store) (σ : L2.St) (H : Hp) (R : ItL → Hp → Prop), Sim X.K cad ι B H S → Slo X.K cad ι B H σw σ →
    Post (m σw S) (fun w S' => ∀ ι' J H', Step X.K ι H ι' H' → Sim X.K cad ι' B H' S' → WalkAt X.K cad B J w.1 w.2 ι' H' → R J H') (ExQ X.K cad ι B H fun c d H' => W c d σ H') → iSem X tg iter σ H R

/-! ### rows at an address -/
section
variable {ι0 : List Addr} {H0 : Hp} {S0 : Store}
structure Via (ι : List Addr) (B : Addr → Prop) (H : Hp) (ι' : List Addr) (B' : Addr → Prop) (H' : Hp) : Prop where
  own : ∀ a o, H a = some o → a ∉ ι → ¬ B a → H' a = some o ∧ a ∉ ι' ∧ ¬ B' a
  tup : ∀ a vs, H a = some (.tup vs) → H' a = some (.tup vs)
  frz : ∀ a b u, H a = some (.frz b u) → H' a = some (.frz b u)
  pre : ∀ (i : Nat) (a : Addr), ι[i]? = some a → ι'[i]? = some a
  ext : ∀ a φ, H a = some (.ext φ) → H' a = some (.ext φ)
  xd : ∀ a fs, H a = some (.xd fs) → H' a = some (.xd fs)
theorem Via.rd {ι ι' : List Addr} {B B' : Addr → Prop} {H H' : Hp} (v : Via ι B H ι' B' H') {a : Addr} {u : HO} (h : Rd H a u) (hi : a ∉ ι) (hb : ¬ B a) : Rd H' a u ∧ a ∉ ι' ∧ ¬ B' a := by
  rcases h with h | ⟨o, h⟩
  · obtain ⟨h1, h2, h3⟩ := v.own a _ h hi hb
    exact ⟨.inl h1, h2, h3⟩
  · obtain ⟨h1, h2, h3⟩ := v.own a _ h hi hb
    exact ⟨.inr ⟨o, h1⟩, h2, h3⟩
mutual
theorem VRel.via {K : Frag} {ι ι' : List Addr} {B B' : Addr → Prop} {H H' : Hp} (w : Via ι B H ι' B' H') : ∀ {d : D} {v : V}, VRel K cad ι B H d v → VRel K cad ι' B' H' d v
  | _, _, .non => .non
  | _, _, .bl b => .bl b
  | _, _, .int i => .int i
  | _, _, .str x ok => .str x ok
  | _, _, .tup h r => .tup (w.tup _ _ h) (VRels.via w r)
  | _, _, .ktup h => .ktup h
  | _, _, .fl h hi hb r => .fl (w.own _ _ h hi hb).1 (w.own _ _ h hi hb).2.1 (w.own _ _ h hi hb).2.2 (VRels.via w r)
  | _, _, .scr h => .scr (h.elim (fun ⟨o, h⟩ => .inl ⟨o, w.frz _ _ _ h⟩) .inr)
  | _, _, .fdK h hi hb rk r => .fdK (w.rd h hi hb).1 (w.rd h hi hb).2.1 (w.rd h hi hb).2.2 (VRels.via w rk) (VRels.via w r)
  | _, _, .fdT h hi hb rk r => .fdT (w.rd h hi hb).1 (w.rd h hi hb).2.1 (w.rd h hi hb).2.2 (VRelss.via w rk) (VRels.via w r)
  | _, _, .obj hC h hi hb hn hf r => .obj hC (w.own _ _ h hi hb).1 (w.own _ _ h hi hb).2.1 (w.own _ _ h hi hb).2.2 hn hf (VRels.via w r)
  | _, _, .ref h => .ref (w.pre _ _ h)
  | _, _, .exn0 hC h hx => .exn0 hC (w.ext _ _ h) hx
  | _, _, .exn1 hC h g hn hx r => .exn1 hC (w.ext _ _ h) (w.xd _ _ g) hn hx (VRels.via w r)
theorem VRels.via {K : Frag} {ι ι' : List Addr} {B B' : Addr → Prop} {H H' : Hp} (w : Via ι B H ι' B' H') : ∀ {d : List D} {v : List V}, VRels K cad ι B H d v → VRels K cad ι' B' H' d v
  | _, _, .nil => .nil
  | _, _, .cons h t => .cons (VRel.via w h) (VRels.via w t)
theorem VRelss.via {K : Frag} {ι ι' : List Addr} {B B' : Addr → Prop} {H H' : Hp} (w : Via ι B H ι' B' H') : ∀ {d : List (List D)} {v : List (List V)}, VRelss K cad ι B H d v → VRelss K cad ι' B' H' d v
  | _, _, .nil => .nil
  | _, _, .cons h t => .cons (VRels.via w h) (VRelss.via w t)
end
theorem CellR.via {K : Frag} {ι ι' : List Addr} {B B' : Addr → Prop} {H H' : Hp} (w : Via ι B H ι' B' H') {c : Cell} {a : Addr} (h : CellR K cad ι B H c a) (e : H' a = H a) : CellR K cad ι' B' H' c a := by
  cases h with
  | lst h r => exact .lst (e.trans h) (r.via w)
  | dicK h rk r => exact .dicK (e.trans h) (rk.via w) (r.via w)
  | dicT h rk r => exact .dicT (e.trans h) (rk.via w) (r.via w)
  | ins hC h hn hf r => exact .ins hC (e.trans h) hn hf (r.via w)
theorem via_B (sim0 : Sim X.K cad ι0 B H0 S0) {B' : Addr → Prop} (st : Step X.K ι0 H0 ι H) (hB : ∀ a, B a → B' a) (hn : ∀ a, B' a → ¬ B a → H0 a = none) : Via ι0 B H0 ι B' H where
  own := fun a o h hi hb => ⟨st.keep a o h hi, st.notin hi (.inl (by rw [h]; simp)), fun z => by rw [hn a z hb] at h; cases h⟩
  tup := fun a vs h => st.keep a _ h fun hm => by
    obtain ⟨u, hu, n1, _⟩ := sim0.kind hm
    rw [h] at hu; cases hu; exact n1 _ rfl
  frz := fun a b u h => st.keep a _ h fun hm => by
    obtain ⟨u', hu, _, n2⟩ := sim0.kind hm
    rw [h] at hu; cases hu; exact n2 _ _ rfl
  pre := fun i a h => by
    obtain ⟨t, rfl⟩ := st.pre
    rw [List.getElem?_append_left (List.getElem?_eq_some_iff.mp h).1]; exact h
  ext := fun a φ h => st.ext sim0 h
  xd := fun a fs h => st.xd sim0 h
def RowAt (K : Frag) (cad : String → Option Addr) (B : Addr → Prop) (Sq : Frag → Hp → Addr → List V → Prop) (p : Addr) (xs : List D) (ck : Option (Nat × List D)) (ι0 : List Addr) (H0 : Hp) : Prop :=
  ∀ (B' : Addr → Prop) (ι : List Addr) (H : Hp) (S : Store), (∀ a, B a → B' a) → Step K ι0 H0 ι H → Sim K cad ι B' H S → (∀ a, B' a → ¬ B a → H0 a = none) → stands S ck → ∃ vs, Sq K H p vs ∧ VRels K cad ι B' H xs vs
def shp : D → Nat
  | .tup _ => 1
  | .str _ => 2
  | _ => 0
theorem src_row (sim : Sim X.K cad ι0 B H0 S0) {d : D} {v : V} {xs : List D} {ck : Option (Nat × List D)} (r : VRel X.K cad ι0 B H0 d v) (h : srcOf S0 d = some (xs, ck)) :
    (shp d = 0 ∧ ∃ p, v = .ref p ∧ RowAt X.K cad B SqL p xs ck ι0 H0) ∨ (shp d = 1 ∧ ∃ p, v = .ref p ∧ RowAt X.K cad B SqT p xs ck ι0 H0) ∨ (shp d = 2 ∧ ∃ x, d = .str x ∧ xs = signs x ∧ v = .str x ∧ PyData.strOk x = true) := by
  cases d with
  | fl ys =>
    simp only [srcOf] at h; cases h
    cases r with
    | @fl a vs _ hh hi hb r =>
      refine .inl ⟨rfl, a, rfl, fun B' ι H S hB st sim' hn _ => ?_⟩
      have w := via_B sim st hB hn
      exact ⟨vs, .of (w.own _ _ hh hi hb).1, r.via w⟩
  | scr ns =>
    simp only [srcOf] at h; cases h
    cases r with
    | @scr a _ hh =>
      refine .inl ⟨rfl, a, rfl, fun B' ι H S hB st sim' hn _ => ?_⟩
      have w := via_B sim st hB hn
      exact ⟨_, ScrR.sq (hh.elim (fun ⟨o, h⟩ => .inl ⟨o, w.frz _ _ _ h⟩) .inr), vints ns⟩
  | tup ys =>
    simp only [srcOf] at h; cases h
    obtain ⟨p, vs, rfl, _, _⟩ := r.tupOf
    refine .inr (.inl ⟨rfl, p, rfl, fun B' ι H S hB st sim' hn _ => ?_⟩)
    have w := via_B sim st hB hn
    obtain ⟨p', vs', e, h1, h2⟩ := (r.via w).tupOf
    cases e
    exact ⟨vs', h1, h2⟩
  | str x =>
    simp only [srcOf] at h; cases h
    exact .inr (.inr ⟨rfl, x, rfl, rfl, r.strOf, r.strOk'⟩)
  | ref i =>
    simp only [srcOf] at h
    cases r with
    | @ref _ p hi =>
      split at h
      · rename_i ys e
        cases h
        refine .inl ⟨rfl, p, rfl, fun B' ι H S hB st sim' hn hs => ?_⟩
        have hi' : ι[i]? = some p := by
          obtain ⟨t, rfl⟩ := st.pre
          rw [List.getElem?_append_left (List.getElem?_eq_some_iff.mp hi).1]; exact hi
        cases sim'.cell i _ p hs hi' with
        | lst g r => exact ⟨_, .of g, r⟩
      · cases h
  | _ => simp only [srcOf] at h; cases h
theorem walk_l {p : Addr} {xs : List D} {ck : Option (Nat × List D)} (h : RowAt X.K cad B SqL p xs ck ι0 H0) : WalkAt X.K cad B (Itl X.K p) xs ck ι0 H0 := fun B' ι H S hB st sim hn hs => by
  obtain ⟨vs, hq, r⟩ := h B' ι H S hB st sim hn hs
  refine ⟨fun i hi => ⟨vs, hq, by rw [← r.length]; exact hi⟩, fun i x hx => ?_⟩
  obtain ⟨v, hv, rv⟩ := r.get hx
  refine ⟨⟨vs, v, hq, hv⟩, fun v' H' y nk => ?_⟩
  obtain ⟨rfl, y⟩ := y
  have := y vs hq
  rw [hv] at this; cases this
  exact ⟨.refl, sim, rv⟩
theorem walk_t {p : Addr} {xs : List D} {ck : Option (Nat × List D)} (h : RowAt X.K cad B SqT p xs ck ι0 H0) : WalkAt X.K cad B (Itt X.K p) xs ck ι0 H0 := fun B' ι H S hB st sim hn hs => by
  obtain ⟨vs, hq, r⟩ := h B' ι H S hB st sim hn hs
  refine ⟨fun i hi => ⟨vs, hq, by rw [← r.length]; exact hi⟩, fun i x hx => ?_⟩
  obtain ⟨v, hv, rv⟩ := r.get hx
  refine ⟨⟨vs, v, hq, hv⟩, fun v' H' y nk => ?_⟩
  obtain ⟨rfl, y⟩ := y
  have := y vs hq
  rw [hv] at this; cases this
  exact ⟨.refl, sim, rv⟩
theorem walk_s {x : Str} (ok : PyData.strOk x = true) : WalkAt X.K cad B (Its x) (signs x) none ι0 H0 := fun B' ι H S hB st sim hn hs => by
  have hlen : (signs x).length = x.cps.size := by simp [signs]
  refine ⟨fun i hi => by rw [hlen] at hi; exact hi, fun i y hy => ?_⟩
  have hi : i < x.cps.size := by rw [← hlen]; exact (List.getElem?_eq_some_iff.mp hy).1
  refine ⟨hi, fun v' H' z nk => ?_⟩
  obtain ⟨rfl, c, hc, rfl⟩ := z
  have : y = .str ⟨#[c]⟩ := by
    unfold signs at hy
    rw [List.getElem?_map] at hy
    have hc' : x.cps.toList[i]? = some c := by simpa using hc
    rw [hc'] at hy
    exact (Option.some.inj hy).symm
  subst this
  refine ⟨.refl, sim, .str _ (strOk_of ok fun c' hc' => ?_)⟩
  have e : c' = c := by simpa using hc'
  subst e
  exact Array.mem_of_getElem? hc
theorem enumD_get : ∀ {xs : List D} {k i : Nat} {y : D}, (enumD k xs)[i]? = some y → ∃ x, xs[i]? = some x ∧ y = .tup [.int ((k + i : Nat) : Int), x]
  | [], _, _, _, h => by simp [enumD] at h
  | x :: r, k, 0, y, h => by simp [enumD] at h; exact ⟨x, rfl, h.symm⟩
  | x :: r, k, i + 1, y, h => by
    simp only [enumD, List.getElem?_cons_succ] at h
    obtain ⟨z, h1, h2⟩ := enumD_get h
    exact ⟨z, by simpa using h1, by rw [h2, Nat.add_assoc, Nat.add_comm 1 i]⟩
theorem enumD_len : ∀ {xs : List D} {k : Nat}, (enumD k xs).length = xs.length
  | [], _ => rfl
  | x :: r, k => by simp [enumD, enumD_len]
theorem walk_e {p : Addr} {xs : List D} {ck : Option (Nat × List D)} (h : RowAt X.K cad B SqL p xs ck ι0 H0) : WalkAt X.K cad B (Ite X.K p) (enumD 0 xs) ck ι0 H0 := fun B' ι H S hB st sim hn hs => by
  obtain ⟨vs, hq, r⟩ := h B' ι H S hB st sim hn hs
  refine ⟨fun i hi => ⟨vs, hq, by rw [← r.length, ← enumD_len (k := 0)]; exact hi⟩, fun i y hy => ?_⟩
  obtain ⟨x, hx, rfl⟩ := enumD_get hy
  obtain ⟨v, hv, rv⟩ := r.get hx
  refine ⟨⟨vs, v, hq, hv⟩, fun v' H' y nk => ?_⟩
  obtain ⟨T, z, rfl, hT, rfl, y⟩ := y
  have := y vs hq
  rw [hv] at this; cases this
  have s1 : Step X.K ι H ι (upd H T (.tup [.int (i : Nat), v])) := .laid hT
  refine ⟨s1, sim.laid hT nk, .tup upd_same (.cons ?_ (.cons (rv.mono sim s1 fun _ q => q) .nil))⟩
  rw [Nat.zero_add]
  exact .int _
theorem zipD_get : ∀ {xs ys : List D} {i : Nat} {z : D}, (zipD xs ys)[i]? = some z → ∃ x y, xs[i]? = some x ∧ ys[i]? = some y ∧ z = .tup [x, y]
  | [], _, _, _, h => by simp [zipD] at h
  | _ :: _, [], _, _, h => by simp [zipD] at h
  | x :: r, y :: q, 0, z, h => by simp [zipD] at h; exact ⟨x, y, rfl, rfl, h.symm⟩
  | x :: r, y :: q, i + 1, z, h => by
    simp only [zipD, List.getElem?_cons_succ] at h
    obtain ⟨x', y', h1, h2, h3⟩ := zipD_get h
    exact ⟨x', y', by simpa using h1, by simpa using h2, h3⟩
theorem zipD_len : ∀ {xs ys : List D} {i : Nat}, (zipD xs ys).length ≤ i → xs.length ≤ i ∨ ys.length ≤ i
  | [], _, _, _ => .inl (Nat.zero_le _)
  | _ :: _, [], _, _ => .inr (Nat.zero_le _)
  | x :: r, y :: q, 0, h => by simp [zipD] at h
  | x :: r, y :: q, i + 1, h => by
    simp only [zipD, List.length_cons, Nat.add_le_add_iff_right] at h
    rcases zipD_len h with h | h
    · exact .inl (by simpa using h)
    · exact .inr (by simpa using h)
theorem walk_z {p q : Addr} {xs ys : List D} {ck ck1 ck2 : Option (Nat × List D)} (h : RowAt X.K cad B SqL p xs ck1 ι0 H0) (g : RowAt X.K cad B SqL q ys ck2 ι0 H0) (hk : ∀ S, stands S ck → stands S ck1 ∧ stands S ck2) : WalkAt X.K cad B (Itz X.K p q) (zipD xs ys) ck ι0 H0 := fun B' ι H S hB st sim hn hs => by
  obtain ⟨vs, hq, r⟩ := h B' ι H S hB st sim hn (hk S hs).1
  obtain ⟨ws, hq2, r2⟩ := g B' ι H S hB st sim hn (hk S hs).2
  refine ⟨fun i hi => ⟨vs, ws, hq, hq2, by rw [← r.length, ← r2.length]; exact zipD_len hi⟩, fun i y hy => ?_⟩
  obtain ⟨x, x2, hx, hx2, rfl⟩ := zipD_get hy
  obtain ⟨v, hv, rv⟩ := r.get hx
  obtain ⟨v2, hv2, rv2⟩ := r2.get hx2
  refine ⟨⟨vs, ws, v, v2, hq, hq2, hv, hv2⟩, fun v' H' y nk => ?_⟩
  obtain ⟨T, z, z2, rfl, hT, rfl, y, y2⟩ := y
  have := y vs hq
  rw [hv] at this; cases this
  have := y2 ws hq2
  rw [hv2] at this; cases this
  have s1 : Step X.K ι H ι (upd H T (.tup [v, v2])) := .laid hT
  exact ⟨s1, sim.laid hT nk, .tup upd_same (.cons (rv.mono sim s1 fun _ q => q) (.cons (rv2.mono sim s1 fun _ q => q) .nil))⟩
theorem walk_zT {p q : Addr} {xs ys : List D} (h : RowAt X.K cad B SqT p xs none ι0 H0) (g : RowAt X.K cad B SqT q ys none ι0 H0) : WalkAt X.K cad B (RZ.ItzT X.K p q) (zipD xs ys) none ι0 H0 := fun B' ι H S hB st sim hn hs => by
  obtain ⟨vs, hq, r⟩ := h B' ι H S hB st sim hn trivial
  obtain ⟨ws, hq2, r2⟩ := g B' ι H S hB st sim hn trivial
  refine ⟨fun i hi => ⟨vs, ws, hq, hq2, by rw [← r.length, ← r2.length]; exact zipD_len hi⟩, fun i y hy => ?_⟩
  obtain ⟨x, x2, hx, hx2, rfl⟩ := zipD_get hy
  obtain ⟨v, hv, rv⟩ := r.get hx
  obtain ⟨v2, hv2, rv2⟩ := r2.get hx2
  refine ⟨⟨vs, ws, v, v2, hq, hq2, hv, hv2⟩, fun v' H' y nk => ?_⟩
  obtain ⟨T, z, z2, rfl, hT, rfl, y, y2⟩ := y
  have := y vs hq
  rw [hv] at this; cases this
  have := y2 ws hq2
  rw [hv2] at this; cases this
  have s1 : Step X.K ι H ι (upd H T (.tup [v, v2])) := .laid hT
  exact ⟨s1, sim.laid hT nk, .tup upd_same (.cons (rv.mono sim s1 fun _ q => q) (.cons (rv2.mono sim s1 fun _ q => q) .nil))⟩
theorem walk_v {p : Addr} {xs : List D} {n : Nat} {ck : Option (Nat × List D)} (hl : xs.length = n) (h : RowAt X.K cad B SqL p xs ck ι0 H0) : WalkAt X.K cad B (Itv X.K p n) xs.reverse ck ι0 H0 := fun B' ι H S hB st sim hn hs => by
  obtain ⟨vs, hq, r⟩ := h B' ι H S hB st sim hn hs
  refine ⟨fun i hi => by rw [List.length_reverse, hl] at hi; exact hi, fun i x hx => ?_⟩
  have hi : i < n := by
    have := (List.getElem?_eq_some_iff.mp hx).1
    rw [List.length_reverse, hl] at this; exact this
  rw [List.getElem?_reverse (by rw [hl]; exact hi), hl] at hx
  obtain ⟨v, hv, rv⟩ := r.get hx
  refine ⟨⟨hi, vs, v, hq, hv⟩, fun v' H' y nk => ?_⟩
  obtain ⟨rfl, y⟩ := y
  have := y vs hq
  rw [hv] at this; cases this
  exact ⟨.refl, sim, rv⟩
theorem walk_vt {p : Addr} {xs : List D} {n : Nat} {ck : Option (Nat × List D)} (hl : xs.length = n) (h : RowAt X.K cad B SqT p xs ck ι0 H0) : WalkAt X.K cad B (RT.ItvT X.K p n) xs.reverse ck ι0 H0 := fun B' ι H S hB st sim hn hs => by
  obtain ⟨vs, hq, r⟩ := h B' ι H S hB st sim hn hs
  refine ⟨fun i hi => by rw [List.length_reverse, hl] at hi; exact hi, fun i x hx => ?_⟩
  have hi : i < n := by
    have := (List.getElem?_eq_some_iff.mp hx).1
    rw [List.length_reverse, hl] at this; exact this
  rw [List.getElem?_reverse (by rw [hl]; exact hi), hl] at hx
  obtain ⟨v, hv, rv⟩ := r.get hx
  refine ⟨⟨hi, vs, v, hq, hv⟩, fun v' H' y nk => ?_⟩
  obtain ⟨rfl, y⟩ := y
  have := y vs hq
  rw [hv] at this; cases this
  exact ⟨.refl, sim, rv⟩
theorem walk_c {lo c : Int} {n : Nat} : WalkAt X.K cad B (Itc lo c n) (rngD lo c n) none ι0 H0 := fun B' ι H S hB st sim hn hs => by
  refine ⟨fun i hi => by rw [rngD_len] at hi; exact hi, fun i x hx => ?_⟩
  obtain ⟨hi, rfl⟩ := rngD_get hx
  refine ⟨hi, fun v' H' y nk => ?_⟩
  obtain ⟨rfl, rfl⟩ := y
  exact ⟨.refl, sim, .int _⟩
theorem walk_r {lo : Int} {n : Nat} : WalkAt X.K cad B (Itr lo n) (rngD lo 1 n) none ι0 H0 := fun B' ι H S hB st sim hn hs => by
  refine ⟨fun i hi => by rw [rngD_len] at hi; exact hi, fun i x hx => ?_⟩
  obtain ⟨hi, rfl⟩ := rngD_get hx
  refine ⟨hi, fun v' H' y nk => ?_⟩
  obtain ⟨rfl, rfl⟩ := y
  rw [Int.mul_one]
  exact ⟨.refl, sim, .int _⟩
end

/-! ### iterators -/
theorem src_stands {d : D} {w : List D × Option (Nat × List D)} (e : srcOf S d = some w) : stands S w.2 := by
  cases d with
  | ref i =>
    simp only [srcOf] at e
    split at e
    · rename_i ys e2; cases e; exact e2
    · cases e
  | _ => simp only [srcOf] at e; cases e <;> exact trivial
theorem RowAt.now {Sq : Frag → Hp → Addr → List V → Prop} {p : Addr} {xs : List D} {ck : Option (Nat × List D)} (h : RowAt X.K cad B Sq p xs ck ι H) (sim : Sim X.K cad ι B H S) (hs : stands S ck) : ∃ vs, Sq X.K H p vs ∧ xs.length = vs.length := by
  obtain ⟨vs, h1, h2⟩ := h B ι H S (fun _ z => z) .refl sim (fun a z1 z2 => absurd z1 z2) hs
  exact ⟨vs, h1, h2.length⟩
theorem ev_split {α β : Type} {r : E1.R α} {f : α → Store → E1.R β} {ok : β → Store → Prop} {exn : Exn → Store → Prop} (h : Post (r.bind f) ok exn) : (∃ d S1, r = .ok d S1 ∧ Post (f d S1) ok exn) ∨ ∃ x S1, r = .exc x S1 ∧ exn x S1 := by
  cases r with
  | ok d S1 => exact .inl ⟨d, S1, rfl, h⟩
  | exc x S1 => exact .inr ⟨x, S1, rfl, h⟩
  | no => exact h.elim
theorem asE_get {α : Type} {o : Option α} {ok : α → Store → Prop} {exn : Exn → Store → Prop} (h : Post (asE S o) ok exn) : ∃ w, o = some w ∧ ok w S := by
  cases o with
  | none => exact h.elim
  | some w => exact ⟨w, rfl, h⟩
theorem sndI_ex (ha : SndE X cad W a ma) : SndI X cad W tg a (fun σ S => (ma σ S).bind fun x S => asE S (srcOf S x)) := by
  intro B ι σw S σ H R sim sl h
  dsimp only at h
  rcases ev_split h with ⟨d, S1, e, h1⟩ | ⟨x, S1, e, h1⟩
  · obtain ⟨w, e2, h2⟩ := asE_get h1
    have key : ∀ {R1 : V → Hp → Prop}, (∀ ι1 v H1, Step X.K ι H ι1 H1 → Sim X.K cad ι1 B H1 S1 → VRel X.K cad ι1 B H1 d v → R1 v H1) → tSem X a σ H R1 := by
      intro R1 hf
      refine ha B ι σw S σ H _ sim sl ?_
      rw [e]
      exact fun ι1 v H1 s1 sim1 r1 => hf ι1 v H1 s1 sim1 r1
    have hd : shp d = 0 ∨ shp d = 1 ∨ shp d = 2 := by cases d <;> simp [shp]
    rcases hd with hd | hd | hd
    · refine iSem.of (pi_list (pe_sem (e := a))) (key fun ι1 v H1 s1 sim1 r1 => ?_)
      rcases src_row sim1 r1 (show srcOf S1 d = some (w.1, w.2) from e2) with ⟨z, p, rfl, hr⟩ | ⟨z, _⟩ | ⟨z, _⟩
      · obtain ⟨vs, hq, _⟩ := hr.now sim1 (src_stands e2)
        exact ⟨p, rfl, ⟨vs, hq⟩, fun _ => h2 ι1 _ H1 s1 sim1 (walk_l hr)⟩
      · rw [hd] at z; cases z
      · rw [hd] at z; cases z
    · refine iSem.of (pi_tup (pe_sem (e := a))) (key fun ι1 v H1 s1 sim1 r1 => ?_)
      rcases src_row sim1 r1 (show srcOf S1 d = some (w.1, w.2) from e2) with ⟨z, _⟩ | ⟨z, p, rfl, hr⟩ | ⟨z, _⟩
      · rw [hd] at z; cases z
      · obtain ⟨vs, hq, _⟩ := hr.now sim1 (src_stands e2)
        exact ⟨p, rfl, ⟨vs, hq⟩, fun _ => h2 ι1 _ H1 s1 sim1 (walk_t hr)⟩
      · rw [hd] at z; cases z
    · refine iSem.of (pi_str (pe_sem (e := a))) (key fun ι1 v H1 s1 sim1 r1 => ?_)
      rcases src_row sim1 r1 (show srcOf S1 d = some (w.1, w.2) from e2) with ⟨z, _⟩ | ⟨z, _⟩ | ⟨z, x, rfl, hx, rfl, ok⟩
      · rw [hd] at z; cases z
      · rw [hd] at z; cases z
      · simp only [srcOf] at e2
        cases e2
        exact ⟨x, rfl, fun _ => h2 ι1 _ H1 s1 sim1 (walk_s ok)⟩
  · refine iSem.of (pi_list (pe_sem (e := a))) (ha B ι σw S σ H _ sim sl ?_)
    rw [e]
    exact h1
theorem sndI_rev (hg : Gl X "reversed") (hm : X.mg "reversed" = none) (hn : notStar a = true) (ha : SndE X cad W a ma) : SndI X cad W tg (.Call (.Name "reversed" p) [a] [] pos) (fun σ S => (ma σ S).bind fun x S => asE S (revOf S x)) := by
  intro B ι σw S σ H R sim sl h
  refine iSem.of (RT.pi_revA (p := p) (pos := pos) hg hm (pe_sem (e := a)) (star_ns hn)) ?_
  refine ha B ι σw S σ H _ sim sl ((h.bind).imp (fun d S1 q => ?_) fun x S1 q => q)
  intro ι1 v H1 s1 sim1 r1
  obtain ⟨w', e2, q'⟩ := asE_get q
  have hd : shp d ≠ 2 ∧ ∃ w, srcOf S1 d = some w ∧ w' = (w.1.reverse, w.2) := by
    cases d with
    | str x => cases e2
    | _ => simp only [revOf] at e2; obtain ⟨w, h1, h2⟩ := Option.map_eq_some_iff.mp e2; exact ⟨by simp [shp], w, h1, h2.symm⟩
  obtain ⟨hd, w, e3, rfl⟩ := hd
  rcases src_row sim1 r1 (show srcOf S1 d = some (w.1, w.2) from e3) with ⟨z, p, rfl, hr⟩ | ⟨z, p, rfl, hr⟩ | ⟨z, _⟩
  · obtain ⟨vs, hq, hl⟩ := hr.now sim1 (src_stands e3)
    exact ⟨p, vs, rfl, .inl ⟨hq, fun _ => q' ι1 _ H1 s1 sim1 (walk_v hl hr)⟩⟩
  · obtain ⟨vs, hq, hl⟩ := hr.now sim1 (src_stands e3)
    exact ⟨p, vs, rfl, .inr ⟨hq, fun _ => q' ι1 _ H1 s1 sim1 (walk_vt hl hr)⟩⟩
  · exact absurd z hd
theorem aSem1 {R1 : List V → Hp → Prop} (hn : notStar a = true) (h : tSem X a σ H fun v H1 => R1 [v] H1) : aSem X [a] σ H R1 :=
  fun pos' pins s I => (pa_cons (pe_sem (e := a)) pa_nil (star_ns hn)).run pos' pins s σ H R1 I h
theorem aSem2 {R1 : List V → Hp → Prop} (hn : notStar a = true) (hn2 : notStar b = true) (h : tSem X a σ H fun v H1 => tSem X b σ H1 fun u H2 => R1 [v, u] H2) : aSem X [a, b] σ H R1 :=
  fun pos' pins s I => (pa_cons (pe_sem (e := a)) (pa_cons (pe_sem (e := b)) pa_nil (star_ns hn2)) (star_ns hn)).run pos' pins s σ H R1 I h
theorem lsrc_row (sim : Sim X.K cad ι B H S) {d : D} {v : V} {w : List D × Option (Nat × List D)} (r : VRel X.K cad ι B H d v) (h : lsrc S d = some w) : srcOf S d = some w ∧ ∃ p, v = .ref p ∧ RowAt X.K cad B SqL p w.1 w.2 ι H := by
  have hd : shp d = 0 ∧ srcOf S d = some w := by
    cases d with
    | tup _ => cases h
    | str _ => cases h
    | _ => exact ⟨rfl, h⟩
  refine ⟨hd.2, ?_⟩
  rcases src_row sim r (show srcOf S d = some (w.1, w.2) from hd.2) with ⟨z, p, rfl, hr⟩ | ⟨z, _⟩ | ⟨z, _⟩
  · exact ⟨p, rfl, hr⟩
  · rw [hd.1] at z; cases z
  · rw [hd.1] at z; cases z
theorem sndI_enum (ht : isTup tg = true) (hg : Gl X "enumerate") (hm : X.mg "enumerate" = none) (hn : notStar a = true) (ha : SndE X cad W a ma) : SndI X cad W tg (.Call (.Name "enumerate" p) [a] [] pos) (fun σ S => (ma σ S).bind fun x S => asE S ((lsrc S x).map fun w => (enumD 0 w.1, w.2))) := by
  intro B ι σw S σ H R sim sl h
  cases tg with
  | Tuple elts kk tpos =>
    refine iSem.of (pi_enum (p := p) (pos := pos) hg hm (pa_sem (es := [a])) (star_ns hn)) ?_
    refine aSem1 hn (ha B ι σw S σ H _ sim sl ((h.bind).imp (fun d S1 q => ?_) fun x S1 q => q))
    intro ι1 v H1 s1 sim1 r1
    obtain ⟨w', e2, q'⟩ := asE_get q
    obtain ⟨w, e3, rfl⟩ := Option.map_eq_some_iff.mp e2
    obtain ⟨e4, p, rfl, hr⟩ := lsrc_row sim1 r1 e3
    obtain ⟨vs, hq, hl⟩ := hr.now sim1 (src_stands e4)
    exact ⟨p, vs, rfl, hq, fun _ => q' ι1 _ H1 s1 sim1 (walk_e hr)⟩
  | _ => cases ht
theorem sndI_zip (ht : isTup tg = true) (hg : Gl X "zip") (hm : X.mg "zip" = none) (hn : notStar a = true) (hn2 : notStar b = true) (ha : SndE X cad W a ma) (hb : SndE X cad W b mb) :
    SndI X cad W tg (.Call (.Name "zip" p) [a, b] [] pos) (fun σ S => (ma σ S).bind fun x S => (mb σ S).bind fun y S => asE S (zipOf S x y)) := by
  intro B ι σw S σ H R sim sl h
  cases tg with
  | Tuple elts kk tpos =>
    refine iSem.of (RZ.pi_zipA (p := p) (pos := pos) hg hm (pa_sem (es := [a, b])) (star_ns hn) (star_plain fun x hx => by simp at hx; rw [hx]; exact hn2)) ?_
    refine aSem2 hn hn2 (ha B ι σw S σ H _ sim sl ((h.bind).imp (fun d S1 q => ?_) fun x S1 q => q))
    intro ι1 v H1 s1 sim1 r1
    refine hb B ι1 σw S1 σ H1 _ sim1 (sl.mono sim s1) ((q.bind).imp (fun d2 S2 q => ?_) fun x S1 q => q.after s1)
    intro ι2 v2 H2 s2 sim2 r2
    have r1' := r1.mono sim1 s2 fun _ q => q
    obtain ⟨w, e2, q'⟩ := asE_get q
    unfold zipOf at e2
    split at e2
    · rename_i xs ys c e3 e4
      cases e2
      obtain ⟨e5, p, rfl, hr⟩ := lsrc_row sim2 r1' e3
      obtain ⟨e6, p2, rfl, hr2⟩ := lsrc_row sim2 r2 e4
      obtain ⟨vs, hq, _⟩ := hr.now sim2 (src_stands e5)
      obtain ⟨vs2, hq2, _⟩ := hr2.now sim2 (src_stands e6)
      exact ⟨p, p2, vs, vs2, rfl, .inl ⟨hq, hq2, fun _ => q' ι2 _ H2 (s1.trans s2) sim2 (walk_z hr hr2 fun S h => ⟨trivial, h⟩)⟩⟩
    · rename_i xs c ys _ e3 e4
      cases e2
      obtain ⟨e5, p, rfl, hr⟩ := lsrc_row sim2 r1' e3
      obtain ⟨e6, p2, rfl, hr2⟩ := lsrc_row sim2 r2 e4
      obtain ⟨vs, hq, _⟩ := hr.now sim2 (src_stands e5)
      obtain ⟨vs2, hq2, _⟩ := hr2.now sim2 (src_stands e6)
      exact ⟨p, p2, vs, vs2, rfl, .inl ⟨hq, hq2, fun _ => q' ι2 _ H2 (s1.trans s2) sim2 (walk_z hr hr2 fun S h => ⟨h, trivial⟩)⟩⟩
    · split at e2
      · cases e2
        rcases src_row (xs := _) (ck := none) sim2 r1' rfl with ⟨z, _⟩ | ⟨_, p, rfl, hr⟩ | ⟨z, _⟩
        · cases z
        · rcases src_row (xs := _) (ck := none) sim2 r2 rfl with ⟨z, _⟩ | ⟨_, p2, rfl, hr2⟩ | ⟨z, _⟩
          · cases z
          · obtain ⟨vs, hq, _⟩ := hr.now sim2 trivial
            obtain ⟨vs2, hq2, _⟩ := hr2.now sim2 trivial
            exact ⟨p, p2, vs, vs2, rfl, .inr ⟨hq, hq2, fun _ => q' ι2 _ H2 (s1.trans s2) sim2 (walk_zT hr hr2)⟩⟩
          · cases z
        · cases z
      · cases e2
  | _ => cases ht
theorem rngN_one (a b : Int) : rngN a b 1 = (b - a).toNat := by
  unfold rngN
  rw [if_pos (by decide)]
  split
  · rw [Int.ediv_one]; omega
  · omega
theorem sndI_rng (hg : Gl X "range") (hm : X.mg "range" = none) (hns : ∀ y ∈ es, notStar y = true) (h0 : 0 < es.length) (h4 : es.length < 4) (ha : SndA X cad W es ms) (hlen : ∀ σ S vs S', ms σ S = .ok vs S' → vs.length = es.length) :
    SndI X cad W tg (.Call (.Name "range" p) es [] pos) (fun σ S => (ms σ S).bind fun vs S => asE S ((rngOf vs).map fun xs => (xs, none))) := by
  intro B ι σw S σ H R sim sl h
  dsimp only at h
  rcases ev_split h with ⟨ds, S1, e, h1⟩ | ⟨x, S1, e, h1⟩
  · obtain ⟨w, e2, h2⟩ := asE_get h1
    obtain ⟨xs, e3, rfl⟩ := Option.map_eq_some_iff.mp e2
    have hl := hlen _ _ _ _ e
    have key : ∀ {R1 : List V → Hp → Prop}, (∀ ι1 vs H1, Step X.K ι H ι1 H1 → Sim X.K cad ι1 B H1 S1 → VRels X.K cad ι1 B H1 ds vs → R1 vs H1) → aSem X es σ H R1 := by
      intro R1 hf
      refine ha B ι σw S σ H _ sim sl ?_
      rw [e]
      exact fun ι1 v H1 s1 sim1 r1 => hf ι1 v H1 s1 sim1 r1
    unfold rngOf at e3
    split at e3
    · rename_i n
      match es, hl with
      | [a], _ =>
        refine iSem.of (pi_range1 (p := p) (pos := pos) hg hm (pa_sem (es := [a])) (star_ns (hns a (by simp)))) (key fun ι1 vs H1 s1 sim1 r1 => ?_)
        obtain ⟨v, rfl, rv⟩ := vrels1 r1
        cases rv.intOf
        split at e3
        · rename_i hs
          cases e3
          exact ⟨n, rfl, hs.1, hs.2, fun _ => h2 ι1 _ H1 s1 sim1 walk_r⟩
        · cases e3
    · rename_i n n2
      match es, hl with
      | [a, b], _ =>
        refine iSem.of (pi_range2 (p := p) (pos := pos) hg hm (pa_sem (es := [a, b])) (by rw [star_ns (hns a (by simp)), star_ns (hns b (by simp))]; rfl) (star_ns (hns b (by simp)))) (key fun ι1 vs H1 s1 sim1 r1 => ?_)
        obtain ⟨v, v2, rfl, rv, rv2⟩ := vrels2 r1
        cases rv.intOf
        cases rv2.intOf
        split at e3
        · rename_i hs
          cases e3
          exact ⟨n, n2, rfl, ⟨hs.1.1, hs.1.2, hs.2.1, hs.2.2⟩, fun _ => h2 ι1 _ H1 s1 sim1 walk_r⟩
        · cases e3
    · rename_i n n2 n3
      match es, hl with
      | [a, b, c], _ =>
        refine iSem.of (pi_range3 (p := p) (pos := pos) hg hm (pa_sem (es := [a, b, c])) (star_ns (hns a (by simp))) (star_plain fun x hx => hns x (List.mem_cons_of_mem _ hx))) (key fun ι1 vs H1 s1 sim1 r1 => ?_)
        cases r1 with
        | cons rv t =>
          obtain ⟨v2, v3, rfl, rv2, rv3⟩ := vrels2 t
          cases rv.intOf
          cases rv2.intOf
          cases rv3.intOf
          split at e3
          · rename_i hs
            cases e3
            obtain ⟨hs1, hs2, hs3⟩ := hs
            rcases hs3 with rfl | rfl
            · refine ⟨n, n2, 1, rngN n n2 1, rfl, ⟨by decide, by decide, small_one hs1.1 hs1.2 hs2.1 hs2.2, ?_⟩, fun _ => h2 ι1 _ H1 s1 sim1 walk_c⟩
              rw [rngN_one, rangeSize_one]; split <;> omega
            · refine ⟨n, n2, -1, rngN n n2 (-1), rfl, ?_, fun _ => h2 ι1 _ H1 s1 sim1 walk_c⟩
              have e : rngN n n2 (-1) = (n - n2).toNat := by
                unfold rngN
                rw [if_neg (by decide)]
                split
                · rw [show (-(-1 : Int)) = 1 from rfl, Int.ediv_one]; omega
                · omega
              rw [e]
              exact RgC.neg hs1.1 hs1.2 hs2.1 hs2.2
          · cases e3
    · cases e3
  · match es, h0, h4 with
    | [a], _, _ =>
      refine iSem.of (pi_range1 (p := p) (pos := pos) hg hm (pa_sem (es := [a])) (star_ns (hns a (by simp)))) (ha B ι σw S σ H _ sim sl ?_)
      rw [e]; exact h1
    | [a, b], _, _ =>
      refine iSem.of (pi_range2 (p := p) (pos := pos) hg hm (pa_sem (es := [a, b])) (by rw [star_ns (hns a (by simp)), star_ns (hns b (by simp))]; rfl) (star_ns (hns b (by simp)))) (ha B ι σw S σ H _ sim sl ?_)
      rw [e]; exact h1
    | [a, b, c], _, _ =>
      refine iSem.of (pi_range3 (p := p) (pos := pos) hg hm (pa_sem (es := [a, b, c])) (star_ns (hns a (by simp))) (star_plain fun x hx => hns x (List.mem_cons_of_mem _ hx))) (ha B ι σw S σ H _ sim sl ?_)
      rw [e]; exact h1
end
end E1

set_option maxHeartbeats 1000000
/-! E1: list comprehensions. -/
namespace E1
open PySem PySem.Spec PyProof.Rows L2
section
variable {X : Cx} {cad : String → Option Addr} {W : WX} {tg e a b c : Expr} {es ifs : List Expr} {m ma mb mc : Slots → Store → E1.R D} {ms : Slots → Store → E1.R (List D)} {p pos : Pos}
variable {ι ι0 ι1 : List Addr} {B B' : Addr → Prop} {H H0 H1 : Hp} {S S' : Store} {σw : Slots} {σ : L2.St} {Q : VK} {D : Addr}

/-! ### a list in the making -/
theorem Sim.via (sim : Sim X.K cad ι B H S) {H' : Hp} (w : Via ι B H ι B' H') (hd : ∀ a, a ∈ ι → ¬ B' a ∧ H' a = H a) (ho : ∀ a, B' a → H' a ≠ none) : Sim X.K cad ι B' H' S :=
  ⟨sim.nd, sim.len, fun i c a h1 h2 => (sim.cell i c a h1 h2).via w (hd a (List.mem_of_getElem? h2)).2, ho, fun a h => (hd a h).1, trivial⟩
theorem sim_hide (sim : Sim X.K cad ι B H S) (hD : H D = none) : Via ι B H ι (fun a => B a ∨ a = D) (upd H D (.lst [])) ∧ Sim X.K cad ι (fun a => B a ∨ a = D) (upd H D (.lst [])) S := by
  have ne : ∀ {a o}, H a = some o → a ≠ D := fun {a o} h e => by rw [e, hD] at h; cases h
  have w : Via ι B H ι (fun a => B a ∨ a = D) (upd H D (.lst [])) :=
    ⟨fun a o h hi hb => ⟨by rw [upd_ne (ne h)]; exact h, hi, fun z => z.elim hb (ne h)⟩, fun a vs h => by rw [upd_ne (ne h)]; exact h, fun a b u h => by rw [upd_ne (ne h)]; exact h, fun i a h => h, fun a φ h => by rw [upd_ne (ne h)]; exact h, fun a fs h => by rw [upd_ne (ne h)]; exact h⟩
  refine ⟨w, sim.via w (fun a h => ?_) fun a h => ?_⟩
  · obtain ⟨o, ho, _⟩ := sim.kind h
    exact ⟨fun z => z.elim (sim.dis a h) (ne ho), upd_ne (ne ho)⟩
  · rcases h with h | rfl
    · by_cases e : a = D
      · subst e; rw [upd_same]; simp
      · rw [upd_ne e]; exact sim.occ a h
    · rw [upd_same]; simp
theorem sim_grow {xs ys : List V} (sim : Sim X.K cad ι B H S) (hB : B D) (hD : H D = some (.lst xs)) : Via ι B H ι B (upd H D (.lst ys)) ∧ Sim X.K cad ι B (upd H D (.lst ys)) S := by
  have ne : ∀ {a}, ¬ B a → a ≠ D := fun {a} h e => h (by rw [e]; exact hB)
  have w : Via ι B H ι B (upd H D (.lst ys)) :=
    ⟨fun a o h hi hb => ⟨by rw [upd_ne (ne hb)]; exact h, hi, hb⟩, fun a vs h => by rw [upd_ne (fun e => by rw [e, hD] at h; cases h)]; exact h, fun a b u h => by rw [upd_ne (fun e => by rw [e, hD] at h; cases h)]; exact h, fun i a h => h, fun a φ h => by rw [upd_ne (fun e => by rw [e, hD] at h; cases h)]; exact h, fun a fs h => by rw [upd_ne (fun e => by rw [e, hD] at h; cases h)]; exact h⟩
  refine ⟨w, sim.via w (fun a h => ⟨sim.dis a h, upd_ne (ne (sim.dis a h))⟩) fun a h => ?_⟩
  by_cases e : a = D
  · subst e; rw [upd_same]; simp
  · rw [upd_ne e]; exact sim.occ a h
theorem step_grow {K : Frag} {o : HO} (st : Step K ι0 H0 ι H) (hD : H0 D = none) : Step K ι0 H0 ι (upd H D o) := by
  have ne : ∀ {a o}, H0 a = some o → a ≠ D := fun {a o} h e => by rw [e, hD] at h; cases h
  refine ⟨st.pre, fun a o h hi => by rw [upd_ne (ne h)]; exact st.keep a o h hi, st.new, fun a h => ?_⟩
  by_cases e : a = D
  · subst e; rw [upd_same]; simp
  · rw [upd_ne e]; exact st.there a h
theorem comp_end {box : Bool} {acc : List E1.D} {av : List V} {d : E1.D} (st : Step X.K ι0 H0 ι H) (sim : Sim X.K cad ι (fun a => B a ∨ a = D) H S) (hD0 : H0 D = none) (hb0 : ∀ a, B a → H0 a ≠ none) (hD : H D = some (.lst av))
    (r : VRels X.K cad ι (fun a => B a ∨ a = D) H acc av) (h : alloc box acc S = .ok d S') (q : OkQ X.K cad ι0 B H0 Q d S') : Q (.ref D) H := by
  have hnB : ¬ B D := fun z => hb0 D z hD0
  have hni : D ∉ ι := fun z => sim.dis D z (.inr rfl)
  have simB : Sim X.K cad ι B H S := sim.B_mono fun a z => .inl z
  unfold alloc at h
  split at h
  · cases box with
    | false =>
      cases h
      exact q ι _ H st simB (.fl hD hni hnB (r.mono sim .refl fun _ z => .inl z))
    | true =>
      cases h
      have w : Via ι (fun a => B a ∨ a = D) H (ι ++ [D]) B H := ⟨fun a o h hi hb => ⟨h, fun z => (List.mem_append.mp z).elim hi (fun z => hb (.inr (by simpa using z))), fun z => hb (.inl z)⟩, fun _ _ h => h, fun _ _ _ h => h, fun i a h => by
        rw [List.getElem?_append_left (List.getElem?_eq_some_iff.mp h).1]; exact h, fun _ _ h => h, fun _ _ h => h⟩
      have sim2 : Sim X.K cad (ι ++ [D]) B H (S ++ [.lst acc]) := by
        refine ⟨?_, by simp [sim.len], fun i c a h1 h2 => ?_, fun a h => sim.occ a (.inl h), fun a h hb => ?_, trivial⟩
        · rw [List.nodup_append]
          refine ⟨sim.nd, by simp, fun a ha b hb => ?_⟩
          have e : b = D := by simpa using hb
          subst e
          exact fun z => hni (by rw [← z]; exact ha)
        · by_cases hi : i < S.length
          · rw [List.getElem?_append_left hi] at h1
            rw [List.getElem?_append_left (by rw [sim.len]; exact hi)] at h2
            exact (sim.cell i c a h1 h2).via w rfl
          · rw [List.getElem?_append_right (by omega)] at h1
            rw [List.getElem?_append_right (by rw [sim.len]; omega)] at h2
            have e : i - S.length = 0 := by
              have := (List.getElem?_eq_some_iff.mp h1).1
              simp at this; omega
            rw [e] at h1
            rw [sim.len, e] at h2
            simp at h1 h2
            subst h1; subst h2
            exact .lst hD (r.via w)
        · rcases List.mem_append.mp h with h | h
          · exact sim.dis a h (.inl hb)
          · have e : a = D := by simpa using h
            subst e
            exact hnB hb
      have st2 : Step X.K ι0 H0 (ι ++ [D]) H := by
        refine ⟨?_, st.keep, fun a h n => ?_, st.there⟩
        · obtain ⟨t, rfl⟩ := st.pre
          exact ⟨t ++ [D], by rw [List.append_assoc]⟩
        · rcases List.mem_append.mp h with h | h
          · exact st.new a h n
          · have e : a = D := by simpa using h
            subst e
            exact ⟨hD0, trivial⟩
      refine q (ι ++ [D]) _ H st2 sim2 (.ref ?_)
      rw [List.getElem?_append_right (by rw [sim.len]; omega), sim.len]; simp
  · cases h

/-! ### slots -/
theorem Slo.via {H' : Hp} (h : Slo X.K cad ι B H σw σ) (w : Via ι B H ι0 B' H') : Slo X.K cad ι0 B' H' σw σ := ⟨h.1, fun i d e => by
  obtain ⟨v, e1, r⟩ := h.2 i d e
  exact ⟨v, e1, r.via w⟩⟩
theorem Slo.wipe (h : Slo X.K cad ι B H σw σ) : ∀ own : List Nat, Slo X.K cad ι B H (E1.wipe σw own) (L2.wipe σ own)
  | [] => h
  | v :: vs => (Slo.wipe h vs).drop v

theorem Same.wiped {σ : L2.St} : ∀ own : List Nat, Same own σ (L2.wipe σ own)
  | [] => .refl
  | v :: vs => by
    obtain ⟨h1, h2⟩ := Same.wiped (σ := σ) vs
    refine ⟨by unfold L2.wipe; rw [List.length_set, h1], fun j hj => ?_⟩
    rw [List.mem_cons, not_or] at hj
    unfold L2.wipe
    rw [List.getElem?_set_ne (Ne.symm hj.1), h2 j hj.2]

/-! ### a block's readings -/
abbrev BX (X : Cx) (scope : Scope) (s : Shared) (H0 : Hp) (C : Addr) (cl : List (Str × Addr)) (fp : List Addr) : Cx := X.blk s H0 scope (compEnvC scope cl C X.env) fp
def bE (X : Cx) (scope : Scope) (e : Expr) : TE := fun σ H Q => ∀ (s : Shared) (H0 : Hp) (C : Addr) (cl : List (Str × Addr)) (fp : List Addr), tSem (BX X scope s H0 C cl fp) e σ H Q
def bG (X : Cx) (scope : Scope) (tg : Expr) : TG := fun v σ H Q => ∀ (s : Shared) (H0 : Hp) (C : Addr) (cl : List (Str × Addr)) (fp : List Addr), gSem (BX X scope s H0 C cl fp) tg v σ H Q
def tsSem (X : Cx) (ifs : List Expr) : TT := fun σ H Q => ∀ (pins : List (Addr × Obj)) (s : Shared), Inv X pins σ H s →
    wpAny (model X.prog X.w) X.A (forIn ifs true fun c r => if r = true then do let ok ← isTrue c X.env (eval c X.env); pure (ForInStep.yield ok) else pure (ForInStep.yield r)) (TP X pins σ Q) X.xe s
def bT (X : Cx) (scope : Scope) (ifs : List Expr) : TT := fun σ H Q => ∀ (s : Shared) (H0 : Hp) (C : Addr) (cl : List (Str × Addr)) (fp : List Addr), tsSem (BX X scope s H0 C cl fp) ifs σ H Q
abbrev Wno : WX := fun _ _ _ _ => False
def SndTs (X : Cx) (cad : String → Option Addr) (ifs : List Expr) (m : Slots → Store → E1.R Bool) : Prop :=
  ∀ (B : Addr → Prop) (ι : List Addr) (σw : Slots) (S : Store) (σ : L2.St) (H : Hp) (Q : Bool → Hp → Prop), Sim X.K cad ι B H S → Slo X.K cad ι B H σw σ →
    Post (m σw S) (fun b S' => ∀ ι' H', Step X.K ι H ι' H' → Sim X.K cad ι' B H' S' → Q b H') (fun _ _ => False) → tsSem X ifs σ H Q
theorem sndTs_nil : SndTs X cad [] (fun _ S => .ok true S) := by
  intro B ι σw S σ H Q sim sl h pins s I
  exact pts_nil.run pins s σ H Q I (h ι H .refl sim)
theorem sndTs_one (hc : SndT X cad Wno c mc) : SndTs X cad [c] (fun σ S => asB (mc σ S)) := by
  intro B ι σw S σ H Q sim sl h pins s I
  refine (pts_one (c := c) pt_sem).run pins s σ H Q I (hc B ι σw S σ H Q sim sl ?_)
  cases e : mc σw S with
  | ok d S1 =>
    simp only [e] at h
    cases d with
    | bl b => exact ⟨b, rfl, h⟩
    | _ => exact h.elim
  | exc x S1 => simp only [e] at h; exact h.elim
  | no => simp only [e] at h; exact h.elim

theorem comp_red {elt y z : Expr} {scope : Scope} {own ns : List Nat} {box : Bool} {mi : Slots → Store → E1.R (List E1.D × Option (Nat × List E1.D))} {mg : E1.D → Slots → Store → E1.R Slots} {mt : Slots → Store → E1.R Bool} {me : Slots → Store → E1.R E1.D} (hns : ∀ j ∈ ns, j ∈ own)
    (hi : SndI X cad W y z mi)
    (hg : ∀ s H0 C cl fp, SndG (BX X scope s H0 C cl fp) cad y ns mg) (ht : ∀ s H0 C cl fp, SndTs (BX X scope s H0 C cl fp) cad ifs mt) (he : ∀ s H0 C cl fp, SndE (BX X scope s H0 C cl fp) cad Wno elt me)
    (sim : Sim X.K cad ι B H S) (sl : Slo X.K cad ι B H σw σ)
    (h : Post ((mi σw S).bind fun w S => (compL mg mt me own w.2 σw w.1 [] S).bind fun xs S => alloc box xs S) (OkQ X.K cad ι B H Q) (ExQ X.K cad ι B H fun c d H' => W c d σ H')) :
    tLc (iSem X y z) (bG X scope y) (bT X scope ifs) (bE X scope elt) own σ H Q := by
  refine hi B ι σw S σ H _ sim sl ((h.bind).imp (fun w S1 h1 => ?_) fun x S1 h1 => h1)
  intro ι1 J H1 s1 sim1 walk D hD
  obtain ⟨xs, ck⟩ := w
  dsimp only at h1 walk
  obtain ⟨w1, simD⟩ := sim_hide (D := D) sim1 hD
  have sl1 := sl.mono sim s1
  let Wv : Nat → Hp → Prop := fun i H2 => i ≤ xs.length ∧ ∃ ι2 S2 acc av, Step X.K ι1 H1 ι2 H2 ∧ Sim X.K cad ι2 (fun a => B a ∨ a = D) H2 S2 ∧ H2 D = some (.lst av) ∧ VRels X.K cad ι2 (fun a => B a ∨ a = D) H2 acc av ∧
    Post ((compL mg mt me own ck σw (xs.drop i) acc S2).bind fun xs S => alloc box xs S) (OkQ X.K cad ι B H Q) (ExQ X.K cad ι B H fun c d H' => W c d σ H')
  refine ⟨fun i m H2 => m = xs.length - i ∧ Wv i H2, ⟨xs.length, by simp, Nat.zero_le _, ι1, S1, [], [], step_grow .refl hD, simD, upd_same, .nil, ?_⟩, ?_⟩
  · exact h1
  rintro i m H2 ⟨rfl, hi, ι2, S2, acc, av, st2, sim2, hDv, rac, h2⟩
  have hst : stands S2 ck ∧ (i < xs.length → acc.length < LINE) := by
    by_cases hl : i < xs.length
    · rw [List.drop_eq_getElem_cons hl] at h2
      unfold compL at h2
      split at h2
      · rename_i hh; exact ⟨hh.1, fun _ => hh.2⟩
      · exact h2.elim
    · rw [List.drop_of_length_le (by omega)] at h2
      unfold compL at h2
      split at h2
      · rename_i hh; exact ⟨hh, fun z => absurd z hl⟩
      · exact h2.elim
  obtain ⟨wstop, wgo⟩ := walk _ ι2 H2 S2 (fun a z => .inl z) st2 sim2 (fun a z1 z2 => z1.elim (fun z => absurd z z2) fun z => z ▸ hD) hst.1
  by_cases hl : i < xs.length
  · obtain ⟨hgo, hyld⟩ := wgo i xs[i] (List.getElem?_eq_getElem hl)
    refine .inr ⟨hgo, Wv (i + 1), fun H' p' => ⟨xs.length - (i + 1), by omega, rfl, p'⟩, fun v H3 hy s0 Hb C cl fp => ?_⟩
    obtain ⟨st3, sim3, rv⟩ := hyld v H3 hy trivial
    rw [List.drop_eq_getElem_cons hl] at h2
    unfold compL at h2
    rw [if_pos ⟨hst.1, hst.2 hl⟩] at h2
    have slb : Slo X.K cad ι2 (fun a => B a ∨ a = D) H3 (E1.wipe σw own) (L2.wipe σ own) := by
      have w2 := via_B (B' := fun a => B a ∨ a = D) sim1 st2 (fun a z => .inl z) (fun a z1 z2 => z1.elim (fun z => absurd z z2) fun z => z ▸ hD)
      exact ((sl1.via w2).mono sim2 st3).wipe own
    cases eg : mg xs[i] (E1.wipe σw own) S2 with
    | no => rw [eg] at h2; exact h2.elim
    | exc x Sx => rw [eg] at h2; exact h2.elim
    | ok σ4 S4 =>
      rw [eg] at h2
      dsimp only at h2
      refine hg s0 Hb C cl fp _ ι2 xs[i] v (E1.wipe σw own) S2 (L2.wipe σ own) H3 _ sim3 slb rv ?_
      rw [eg]
      intro ι4 σ5 H4 st4 sim4 sl4 same
      refine ⟨(same.wipe hns).trans ((Same.wiped own).wipe fun _ z => z), fun s0 Hb C cl fp => ?_⟩
      cases et : mt σ4 S4 with
      | no => rw [et] at h2; exact h2.elim
      | exc x Sx => rw [et] at h2; exact h2.elim
      | ok k S5 =>
        rw [et] at h2
        refine ht s0 Hb C cl fp _ ι4 σ4 S4 σ5 H4 _ sim4 sl4 ?_
        rw [et]
        intro ι5 H5 st5 sim5
        have hn2 : D ∉ ι2 := fun z => sim2.dis D z (.inr rfl)
        have hn4 : D ∉ ι4 := fun z => sim4.dis D z (.inr rfl)
        have hD5 : H5 D = some (.lst av) := st5.keep D _ (st4.keep D _ (st3.keep D _ hDv hn2) hn2) hn4
        have r5 : VRels X.K cad ι5 (fun a => B a ∨ a = D) H5 acc av := ((rac.mono sim2 st3 fun _ z => z).mono sim3 st4 fun _ z => z).mono sim4 st5 fun _ z => z
        have st25 : Step X.K ι1 H1 ι5 H5 := ((st2.trans st3).trans st4).trans st5
        cases k with
        | false =>
          dsimp only at h2
          simp only [Bool.false_eq_true, if_false]
          exact ⟨hl, ι5, S5, acc, av, st25, sim5, hD5, r5, h2⟩
        | true =>
          dsimp only at h2
          simp only [if_true]
          intro s0 Hb C cl fp
          cases ee : me σ4 S5 with
          | no => rw [ee] at h2; exact h2.elim
          | exc x Sx => rw [ee] at h2; exact h2.elim
          | ok y S6 =>
            rw [ee] at h2
            dsimp only at h2
            refine he s0 Hb C cl fp _ ι5 σ4 S5 σ5 H5 _ sim5 (sl4.mono sim4 st5) ?_
            rw [ee]
            intro ι6 yv H6 st6 sim6 ry
            have hn5 : D ∉ ι5 := fun z => sim5.dis D z (.inr rfl)
            have hD6 : H6 D = some (.lst av) := st6.keep D _ hD5 hn5
            have r6 := r5.mono sim5 st6 fun _ z => z
            refine ⟨av, hD6, by rw [← rac.length]; exact hst.2 hl, hl, ?_⟩
            obtain ⟨w7, sim7⟩ := sim_grow (ys := av ++ [yv]) sim6 (.inr rfl) hD6
            exact ⟨ι6, S6, acc ++ [y], av ++ [yv], step_grow (st25.trans st6) hD, sim7, upd_same, (r6.append (.cons ry .nil)).via w7, h2⟩
  · have e : i = xs.length := by omega
    subst e
    refine .inl ⟨wstop _ (Nat.le_refl _), ?_⟩
    rw [List.drop_of_length_le (Nat.le_refl _)] at h2
    unfold compL at h2
    rw [if_pos hst.1] at h2
    have h3 : Post (alloc box acc S2) (OkQ X.K cad ι B H Q) (ExQ X.K cad ι B H fun c d H' => W c d σ H') := h2
    obtain ⟨d, S3, e3, q3⟩ := h3.ok alloc_noexc
    exact comp_end (B := B) st2 sim2 hD (fun a z => sim1.occ a z) hDv rac e3 (q3.after s1)
theorem sndE_comp {elt y z : Expr} {scope : Scope} {ownX : List (Str × Nat)} {own ns : List Nat} {box : Bool} {mi : Slots → Store → E1.R (List E1.D × Option (Nat × List E1.D))} {mg : E1.D → Slots → Store → E1.R Slots} {mt : Slots → Store → E1.R Bool} {me : Slots → Store → E1.R E1.D}
    (hc : X.calm = true) (hN : X.N.Nodup) (ok : BlkOk X.N X.env.scope scope ownX) (hown : ownX.map (·.2) = own) (hns : ∀ j ∈ ns, j ∈ own) (hz : notSet z = true)
    (hi : SndI X cad W y z mi)
    (hg : ∀ s H0 C cl fp, SndG (BX X scope s H0 C cl fp) cad y ns mg) (ht : ∀ s H0 C cl fp, SndTs (BX X scope s H0 C cl fp) cad ifs mt) (he : ∀ s H0 C cl fp, SndE (BX X scope s H0 C cl fp) cad Wno elt me) :
    SndE X cad W (.ListComp elt [⟨y, z, ifs, 0⟩] scope pos) (fun σ S => (mi σ S).bind fun w S => (compL mg mt me own w.2 σ w.1 [] S).bind fun xs S => alloc box xs S) := by
  intro B ι σw S σ H Q sim sl h pins s I
  refine (pe_lc (g := bG X scope y) (tt := bT X scope ifs) (te := bE X scope elt) hc hN (pi_sem (tg := y) (iter := z)) ok (fun s H0 C cl fp => ⟨fun pins s1 σ1 H1 v u Q1 I r q => q s H0 C cl fp pins s1 u I r⟩)
    (fun s H0 C cl fp => ⟨fun pins s1 σ1 H1 Q1 I q => q s H0 C cl fp pins s1 I⟩) (fun s H0 C cl fp => ⟨fun pins s1 σ1 H1 Q1 I q => q s H0 C cl fp pins s1 I⟩) (fun x => by cases z <;> first | rfl | (simp [notSet] at hz))).run pins s σ H Q I ?_
  rw [hown]
  exact comp_red hns hi hg ht he sim sl h
theorem ps_comp {elt y z : Expr} {scope : Scope} {ownX : List (Str × Nat)} {i : Nat} {x : Str} {py spos : Pos}
    (hc : X.calm = true) (hN : X.N.Nodup) (hx : X.N[i]? = some x) (hxl : X.env.scope.names.lookup x = some .local) (hsw : swapsWith (.ListComp elt [⟨y, z, ifs, 0⟩] scope pos) (some (.Name x py)) spos.line X.env = pure true) (ok : BlkOk X.N X.env.scope scope ownX) (hz : notSet z = true) :
    PS X (.Assign [.Name x py] (.ListComp elt [⟨y, z, ifs, 0⟩] scope pos) spos) (tAsg (tLc (iSem X y z) (bG X scope y) (bT X scope ifs) (bE X scope elt) (ownX.map (·.2))) (gName i)) :=
  ps_setLc hc hN hx hxl hsw (pi_sem (tg := y) (iter := z)) ok (fun s H0 C cl fp => ⟨fun pins s1 σ1 H1 v u Q1 I r q => q s H0 C cl fp pins s1 u I r⟩)
    (fun s H0 C cl fp => ⟨fun pins s1 σ1 H1 Q1 I q => q s H0 C cl fp pins s1 I⟩) (fun s H0 C cl fp => ⟨fun pins s1 σ1 H1 Q1 I q => q s H0 C cl fp pins s1 I⟩) (fun x => by cases z <;> first | rfl | (simp [notSet] at hz))
end
end E1

set_option maxHeartbeats 1000000
/-! E1: all expressions are as the evaluator says. -/
namespace E1
open PySem PySem.Spec PyProof.Rows L2
section
variable {X : Cx} {cad : String → Option Addr} {W : WX} {tg e a b c : Expr} {es : List Expr} {ma mb mc : Slots → Store → E1.R D} {ms : Slots → Store → E1.R (List D)} {p pos : Pos}

/-! ### the rest of the forms -/
theorem sE_bin {op : Bop} (ha : SndE X cad W a ma) (hb : SndE X cad W b mb) : SndE X cad W (.BinOp a (pyOp op) b pos) (fun σ S => (ma σ S).bind fun x S => (mb σ S).bind fun y S => bop op x y S) := by
  intro B ι σw S σ H Q sim sl h
  exact fun pins s I => (pe_op (pos := pos) op_sem (pe_sem (e := a)) (pe_sem (e := b))).run pins s σ H Q I (snd2 ha hb (fun x y S => bop_noexc) (fun ι H S x y v u d S' sim rx ry h q => bop_ok sim rx ry h q) sim sl h)
theorem sE_neg (ha : SndE X cad W a ma) : SndE X cad W (.UnaryOp .USub a pos) (fun σ S => (ma σ S).bind fun x S => match x with | .int i => .ok (.int (-i)) S | _ => .no) := by
  intro B ι σw S σ H Q sim sl h
  refine tSem.of (pe_un (pos := pos) un_neg (pe_sem (e := a))) (ha B ι σw S σ H _ sim sl ((h.bind).imp (fun d S1 q => ?_) fun x S1 q => q))
  intro ι1 v H1 s1 sim1 r1
  cases d with
  | int i => exact ⟨i, r1.intOf, fun _ => q ι1 _ H1 s1 sim1 (.int _)⟩
  | _ => exact q.elim
theorem sE_sub (hs : notSlice b = true) (hu : X.A.units + 1 < cLine) (ha : SndE X cad W a ma) (hb : SndE X cad W b mb) : SndE X cad W (.Subscript a b pos) (fun σ S => (ma σ S).bind fun x S => (mb σ S).bind fun y S => asE S (subF S x y)) := by
  intro B ι σw S σ H Q sim sl h
  exact fun pins s I => (pe_sub (X := X) (a := a) (b := b) (pos := pos)).run pins s σ H Q I (snd2 ha hb (fun x y S => asE_noexc) (fun ι H S x y v u d S' sim rx ry h q => sub_ok (fun o i => by cases b <;> first | rfl | (simp [notSlice] at hs)) hu sim rx ry h q) sim sl h)
theorem sE_tup {k : Nat} (ha : SndA X cad W es ms) : SndE X cad W (.Tuple es k pos) (fun σ S => (ms σ S).bind fun vs S => if vs.length ≤ LINE then .ok (.tup vs) S else .no) := by
  intro B ι σw S σ H Q sim sl h
  refine tSem.of (pe_tup (x1 := k) (pos := pos) (pa_sem (es := es))) (ha B ι σw S σ H _ sim sl ((h.bind).imp (fun xs S1 q => ?_) fun x S1 q => q))
  intro ι1 vs H1 s1 sim1 r1
  split at q
  · rename_i hl
    refine ⟨by rw [← r1.length]; exact hl, fun p hp nk => ?_⟩
    exact tup_ok sim1 r1 (OkQ.after q s1) p hp nk
  · exact q.elim
theorem sE_lst {box : Bool} (ha : SndA X cad W es ms) : SndE X cad W (.List es pos) (fun σ S => (ms σ S).bind fun vs S => alloc box vs S) := by
  intro B ι σw S σ H Q sim sl h
  refine tSem.of (pe_lst (pos := pos) (pa_sem (es := es))) (ha B ι σw S σ H _ sim sl ((h.bind).imp (fun xs S1 q => ?_) fun x S1 q => q))
  intro ι1 vs H1 s1 sim1 r1
  obtain ⟨d, S2, e2, q2⟩ := q.ok alloc_noexc
  obtain ⟨h1, h2⟩ := alloc_ok sim1 r1 e2 (OkQ.after q2 s1)
  exact ⟨h1, fun p hp nk => h2 p hp nk⟩
theorem sE_dic {tk : Bool} : SndE X cad W (.Dict [] [] pos) (fun _ S => .ok (.ref S.length) (S ++ [.dic tk [] []])) := by
  intro B ι σw S σ H Q sim sl h
  have fin : ∀ p, H p = none → ∀ o : HO, CellR X.K cad (ι ++ [p]) B (upd H p o) (.dic tk [] []) p → Q (.ref p) (upd H p o) := fun p hp o hc => by
    have s : Step X.K ι H (ι ++ [p]) (upd H p o) := .cell hp trivial
    refine h (ι ++ [p]) _ _ s (sim.push hp trivial hc) (.ref ?_)
    rw [List.getElem?_append_right (by rw [sim.len]; omega), sim.len]; simp
  cases tk with
  | false => exact tSem.of (pe_dnewK (pos := pos)) fun p hp _ => fin p hp _ (.dicK (kvs := []) upd_same .nil .nil)
  | true => exact tSem.of (pe_dnewT (pos := pos)) fun p hp _ => fin p hp _ (CellR.dicT (kvs := []) (ks := []) upd_same .nil .nil)
theorem blt_noexc {f : Blt} {xs : List D} {S : Store} : NoExc (blt f xs S) := by
  intro x S'
  unfold blt
  repeat' split
  all_goals first | exact alloc_noexc x S' | simp
end

/-! ### the world around -/
structure WdS (t : Tab) (P : Prog) (cad : String → Option Addr) (n : Nat) (X : Cx) : Prop where
  fns : ∀ f y, t.fns.lookup f = some y → ∃ fa, X.mg (Str.ofString y) = some (.ref fa) ∧ PySem.W.keepIn X.K (.ref fa) = true ∧ FnAt X cad (2 * n + 2) (call P n f) fa
  cls : ∀ c, c ∈ t.cls → ∃ A fi, X.mg (Str.ofString c) = some (.ref A) ∧ PySem.W.keepIn X.K (.ref A) = true ∧ Cls X.K A ∧ Mk X.K A fi ∧ cad c = some A ∧ FnAt X cad (2 * n + 2) (call P n (c ++ ".__init__")) fi
  mts : ∀ c A m, cad c = some A → m ∈ t.mts → (P.fn (c ++ "." ++ m)).isSome = true → ∃ g, Meth X.K A (Str.ofString m) g ∧ FnAt X cad (2 * n + 2) (call P n (c ++ "." ++ m)) g
  bts : ∀ b, b ∈ t.bts → X.mg (Str.ofString b) = none
  tys : ∀ s, s ∈ t.tys → NameTy X cad s
  kinds : Kinds cad
  insk : ∀ C A, cad C = some A → Cls X.K A → InsK X.K A
  isa : ∀ k t b, P.isa k t = some b → PySem.W.kitOne X.K (tyVal cad k) (tyVal cad t) = some b
  fld : ∀ c A f, cad c = some A → (P.fld c).contains f = true → NoAttr X.K A (Str.ofString f)
structure Wd (t : Tab) (P : Prog) (cad : String → Option Addr) (n : Nat) (g : Gc) (X : Cx) (W : WX) : Prop where
  st : WdS t P cad n X
  hN : X.N = g.N.map Str.ofString
  nd : X.N.Nodup
  sc : X.env.scope = g.sc
  fn : (g.fnc = none ∧ ∀ x, X.fn x = true) ∨ ∃ sc, g.fnc = some sc ∧ ∀ x, X.fn x = (sc.names.lookup x == some .cell)
  calm : g.calm = true → X.calm = true
  un : X.A.units + 65 < cLine
  room : g.calm = true → Room (2 * n + 3) X.A
  tk : Takes X W
section
variable {t : Tab} {P : Prog} {cad : String → Option Addr} {n : Nat} {g : Gc} {X : Cx} {W : WX}
theorem strEq_eq {x : Str} {y : String} (h : strEq x y = true) : x = Str.ofString y := eq_of_beq h
theorem Wd.slot (w : Wd t P cad n g X W) {i : Nat} {x : Str} (h : (match g.N[i]? with | some y => strEq x y | none => false) = true) : X.N[i]? = some x := by
  rw [w.hN, List.getElem?_map]
  split at h
  · rename_i y e
    rw [e, strEq_eq h]; rfl
  · cases h
theorem Wd.gl (w : Wd t P cad n g X W) {x : Str} (h : okGlob g x = true) : Gl X x ∧ (x == ("__debug__" : Str)) = false := by
  unfold okGlob isGlob at h
  rw [Bool.and_eq_true] at h
  refine ⟨?_, by simpa using h.2⟩
  unfold Gl
  have h1 := h.1
  rw [← w.sc] at h1
  show X.env.scope.names.lookup x = _
  split at h1
  · assumption
  · cases h1
theorem Wd.vis (w : Wd t P cad n g X W) {i : Nat} {x : Str} (h : okName g i x = true) : X.N[i]? = some x ∧ Vis X.env.scope x ∧ (x == ("__debug__" : Str)) = false ∧ (x == ("__classdict__" : Str)) = false := by
  unfold okName isVis at h
  simp only [Bool.and_eq_true] at h
  obtain ⟨⟨⟨h1, h2⟩, h3⟩, h4⟩ := h
  refine ⟨w.slot h1, ?_, by simpa using h3, by simpa using h4⟩
  rw [← w.sc] at h2
  unfold Vis
  split at h2
  · rename_i e; exact .inl e
  · rename_i e; exact .inr (.inl e)
  · rename_i e; exact .inr (.inr e)
  · cases h2
theorem Wd.store (w : Wd t P cad n g X W) {i : Nat} {x : Str} (h : okStore g i x = true) : X.N[i]? = some x ∧ Loc X.env.scope x ∧ (X.fn x = true ∨ X.env.scope.names.lookup x = some .local) := by
  unfold okStore at h
  rw [Bool.and_eq_true] at h
  refine ⟨w.slot h.1, ?_⟩
  have h2 := h.2
  rw [← w.sc] at h2
  split at h2
  · rename_i e; exact ⟨.inl e, .inr e⟩
  · rename_i e
    refine ⟨.inr e, .inl ?_⟩
    rcases w.fn with ⟨f1, f2⟩ | ⟨sc, f1, f2⟩
    · exact f2 x
    · rw [f1] at h2
      rw [f2 x]; exact h2
  · cases h2
theorem okEs_ns : ∀ {es : Exs} {xs : List Expr}, okEs t g es xs = true → (∀ y ∈ xs, notStar y = true) ∧ xs.length = lenE es
  | .nil, [], _ => ⟨fun y h => (by cases h), rfl⟩
  | .nil, _ :: _, h => by simp [okEs] at h
  | .cons e es, [], h => by simp [okEs] at h
  | .cons e es, x :: xs, h => by
    simp only [okEs, Bool.and_eq_true] at h
    obtain ⟨h1, h2⟩ := okEs_ns h.2
    exact ⟨fun y hy => (List.mem_cons.mp hy).elim (fun z => z ▸ h.1.2) (h1 y), by simp [h2, lenE]⟩
theorem okTs_ns : ∀ {es : Tgs} {xs : List Expr}, okTs t g es xs = true → (∀ y ∈ xs, notStar y = true) ∧ xs.length = lenG es
  | .nil, [], _ => ⟨fun y h => (by cases h), rfl⟩
  | .nil, _ :: _, h => by simp [okTs] at h
  | .cons e es, [], h => by simp [okTs] at h
  | .cons e es, x :: xs, h => by
    simp only [okTs, Bool.and_eq_true] at h
    obtain ⟨h1, h2⟩ := okTs_ns h.2
    exact ⟨fun y hy => (List.mem_cons.mp hy).elim (fun z => z ▸ h.1.2) (h1 y), by simp [h2, lenG]⟩
theorem evs_len {C : E1.Env} : ∀ {es : Exs} {σ : Slots} {S S' : Store} {vs : List D}, evs C es σ S = .ok vs S' → vs.length = lenE es
  | .nil, σ, S, S', vs, h => by simp only [evs] at h; cases h; rfl
  | .cons e es, σ, S, S', vs, h => by
    simp only [evs] at h
    cases e1 : ev C e σ S with
    | ok x S1 =>
      rw [e1] at h
      simp only [E1.R.bind] at h
      cases e2 : evs C es σ S1 with
      | ok xs S2 =>
        rw [e2] at h
        cases h
        simp [lenE, evs_len e2]
      | exc _ _ => rw [e2] at h; cases h
      | no => rw [e2] at h; cases h
    | exc _ _ => rw [e1] at h; cases h
    | no => rw [e1] at h; cases h
theorem Wd.blk (w : Wd t P cad n g X W) (scope : Scope) (s : Shared) (H0 : Hp) (C : Addr) (cl : List (Str × Addr)) (fp : List Addr) : Wd t P cad n ⟨g.N, relS scope g.sc, some scope, g.calm⟩ (BX X scope s H0 C cl fp) Wno where
  st := ⟨fun f y h => let ⟨fa, h1, h2, h3⟩ := w.st.fns f y h; ⟨fa, h1, h2, ⟨h3.ok⟩⟩, fun c h => let ⟨A, fi, h1, h2, h3, h4, h5, h6⟩ := w.st.cls c h; ⟨A, fi, h1, h2, h3, h4, h5, ⟨h6.ok⟩⟩,
    fun c A m h1 h2 h3 => let ⟨g, h4, h5⟩ := w.st.mts c A m h1 h2 h3; ⟨g, h4, ⟨h5.ok⟩⟩, w.st.bts, w.st.tys, w.st.kinds, w.st.insk, w.st.isa, w.st.fld⟩
  hN := w.hN
  nd := w.nd
  sc := by rw [← w.sc]; rfl
  fn := .inr ⟨scope, rfl, fun x => rfl⟩
  calm := w.calm
  un := w.un
  room := w.room
  tk := fun u s' ⟨a, B, sI, pins, σ, H, cls, d, e, I, nb, up, sky, na, os, ag, z⟩ => z.elim
theorem Wd.no (w : Wd t P cad n g X W) : Wd t P cad n g X Wno :=
  ⟨w.st, w.hN, w.nd, w.sc, w.fn, w.calm, w.un, w.room, fun u s' ⟨a, B, sI, pins, σ, H, cls, d, e, I, nb, up, sky, na, os, ag, z⟩ => z.elim⟩
def SE (X : Cx) (cad : String → Option Addr) (W : WX) (x : Expr) (m : Slots → Store → E1.R D) : Prop := SndE X cad W x m ∧ SndT X cad W x m ∧ (isBool x = true → SndW X cad W x m)
theorem SE.val {x : Expr} {m : Slots → Store → E1.R D} (h : SndE X cad W x m) (hb : isBool x = false) (he : ∀ whole, isTrue x X.env whole = (do let v ← whole; standAt x.pos; holding [v] (truthy v))) : SE X cad W x m :=
  ⟨h, snd_val he h, fun z => by rw [hb] at z; cases z⟩
theorem bltBoot (b : Blt) : bootBuiltins (Str.ofString (bltName b)) = some (bltV b) ∧ Str.ofString (bltName b) ≠ ("__name__" : Str) := by
  cases b <;> exact ⟨by rfl, by simp only [bltName]; decide⟩
end
end E1

set_option maxHeartbeats 1000000
/-! E1: the induction over expressions. -/
namespace E1
open PySem PySem.Spec PyProof.Rows L2
section
variable {t : Tab} {P : Prog} {cad : String → Option Addr} {n : Nat}
theorem isBool_no {x : Expr} (h : isBool x = false) : ∀ {X : Cx} {W : WX} {m : Slots → Store → E1.R D}, isBool x = true → SndW X cad W x m := fun z => by rw [h] at z; cases z
theorem evs0 {C : E1.Env} {es : Exs} {xs : List Expr} {g : Gc} (h : okEs t g es xs = true) : xs = [] → ∀ σ S, evs C es σ S = .ok [] S := fun e σ S => by
  subst e
  cases es with
  | nil => rfl
  | cons _ _ => simp [okEs] at h
theorem litE {X : Cx} {W : WX} {C : E1.Env} {d : D} {k : Const} {j : Nat} {pos : Pos} (h : litOk d k = true) : SndE X cad W (.Constant k j pos) (ev C (.lit d)) := by
  cases d <;> cases k <;> first | (simp [litOk] at h; done) | skip
  · exact snd_non C
  · simp only [litOk, beq_iff_eq] at h; subst h; exact snd_bl C
  · simp only [litOk, beq_iff_eq] at h; subst h; exact snd_int C
  · simp only [litOk, Bool.and_eq_true, beq_iff_eq] at h; obtain ⟨rfl, h2⟩ := h; exact snd_str h2 C

mutual
theorem wE : ∀ (e : Ex) {g : Gc} {X : Cx} {W : WX} {x : Expr}, Wd t P cad n g X W → okE t g e x = true → SE X cad W x (ev (envOf P n) e)
  | .var i, g, X, W, x, w, h => by
    unfold okE at h
    split at h
    · obtain ⟨h1, h2, h3, h4⟩ := w.vis h
      exact .val (snd_var h1 h2 h3 h4 _) rfl fun _ => rfl
    · cases h
  | .lit d, g, X, W, x, w, h => by
    unfold okE at h
    split at h
    · exact .val (litE h) rfl fun _ => rfl
    · cases h
  | .glob _, g, X, W, x, w, h => by unfold okE at h; cases h
  | .bin op a b, g, X, W, x, w, h => by
    unfold okE at h
    split at h
    · simp only [Bool.and_eq_true, beq_iff_eq] at h
      obtain ⟨⟨rfl, h2⟩, h3⟩ := h
      refine .val ?_ rfl fun _ => rfl
      have := sE_bin (op := op) (pos := by assumption) (wE a w h2).1 (wE b w h3).1
      intro B ι σw S σ H Q sim sl hh
      rw [ev] at hh
      exact this B ι σw S σ H Q sim sl hh
    · cases h
  | .neg a, g, X, W, x, w, h => by
    unfold okE at h
    split at h
    · refine .val ?_ rfl fun _ => rfl
      have := sE_neg (pos := by assumption) (wE a w h).1
      intro B ι σw S σ H Q sim sl hh
      rw [ev] at hh
      exact this B ι σw S σ H Q sim sl hh
    · cases h
  | .not a, g, X, W, x, w, h => by
    unfold okE at h
    split at h
    · refine ⟨?_, ?_, isBool_no rfl⟩
      · have := sE_not (pos := by assumption) (wE a w h).1
        intro B ι σw S σ H Q sim sl hh
        rw [ev] at hh
        exact this B ι σw S σ H Q sim sl hh
      · have := sT_not (pos := by assumption) (wE a w h).2.1
        intro B ι σw S σ H Q sim sl hh
        rw [ev] at hh
        exact this B ι σw S σ H Q sim sl hh
    · cases h
  | .cmp op a b, g, X, W, x, w, h => by
    unfold okE at h
    split at h
    · simp only [Bool.and_eq_true, beq_iff_eq] at h
      obtain ⟨⟨⟨rfl, h2⟩, h3⟩, h4⟩ := h
      refine ⟨?_, ?_, isBool_no rfl⟩
      · have := sE_cmp (op := op) (pos := by assumption) w.un (wE a w h2).1 (wE b w h3).1 h4
        intro B ι σw S σ H Q sim sl hh
        rw [ev] at hh
        exact this B ι σw S σ H Q sim sl hh
      · have := sT_cmp (op := op) (pos := by assumption) w.un (wE a w h2).1 (wE b w h3).1 h4
        intro B ι σw S σ H Q sim sl hh
        rw [ev] at hh
        exact this B ι σw S σ H Q sim sl hh
    · cases h
  | .chain o1 o2 a b c, g, X, W, x, w, h => by
    unfold okE at h
    split at h
    · simp only [Bool.and_eq_true, beq_iff_eq] at h
      obtain ⟨⟨⟨⟨⟨rfl, rfl⟩, h2⟩, h3⟩, h4⟩, h5⟩ := h
      refine ⟨?_, ?_, isBool_no rfl⟩
      · have := sE_chain (o1 := o1) (o2 := o2) (pos := by assumption) w.un (wE a w h2).1 (wE b w h3).1 (wE c w h4).1 h5
        intro B ι σw S σ H Q sim sl hh
        rw [ev] at hh
        exact this B ι σw S σ H Q sim sl hh
      · have := sT_chain (o1 := o1) (o2 := o2) (pos := by assumption) w.un (wE a w h2).1 (wE b w h3).1 (wE c w h4).1 h5
        intro B ι σw S σ H Q sim sl hh
        rw [ev] at hh
        exact this B ι σw S σ H Q sim sl hh
    · cases h
  | .and a b, g, X, W, x, w, h => by
    unfold okE at h
    split at h
    · rename_i x y r pos
      simp only [Bool.and_eq_true] at h
      have ea := wE a w h.1
      have eb : SndE X cad W (.BoolOp .And (y :: r) pos) (ev (envOf P n) b) ∧ SndW X cad W (.BoolOp .And (y :: r) pos) (ev (envOf P n) b) := by
        cases r with
        | nil => have z := wE b w h.2; exact ⟨sE_one z.1, sW_and1 z.2.1⟩
        | cons z r => have z := wE b w h.2; exact ⟨z.1, z.2.2 rfl⟩
      have k1 := sE_and (pos := pos) ea.1 eb.1
      have k2 := sW_and (pos := pos) ea.2.1 eb.2
      have k2' : SndW X cad W (.BoolOp .And (x :: y :: r) pos) (ev (envOf P n) (.and a b)) := by
        intro B ι σw S σ H Q sim sl hh
        rw [ev] at hh
        exact k2 B ι σw S σ H Q sim sl hh
      refine ⟨?_, k2'.t, fun _ => k2'⟩
      intro B ι σw S σ H Q sim sl hh
      rw [ev] at hh
      exact k1 B ι σw S σ H Q sim sl hh
    · cases h
  | .or a b, g, X, W, x, w, h => by
    unfold okE at h
    split at h
    · rename_i x y r pos
      simp only [Bool.and_eq_true] at h
      have ea := wE a w h.1
      have eb : SndE X cad W (.BoolOp .Or (y :: r) pos) (ev (envOf P n) b) ∧ SndW X cad W (.BoolOp .Or (y :: r) pos) (ev (envOf P n) b) := by
        cases r with
        | nil => have z := wE b w h.2; exact ⟨sE_one z.1, sW_or1 z.2.1⟩
        | cons z r => have z := wE b w h.2; exact ⟨z.1, z.2.2 rfl⟩
      have k1 := sE_or (pos := pos) ea.1 eb.1
      have k2 := sW_or (pos := pos) ea.2.1 eb.2
      have k2' : SndW X cad W (.BoolOp .Or (x :: y :: r) pos) (ev (envOf P n) (.or a b)) := by
        intro B ι σw S σ H Q sim sl hh
        rw [ev] at hh
        exact k2 B ι σw S σ H Q sim sl hh
      refine ⟨?_, k2'.t, fun _ => k2'⟩
      intro B ι σw S σ H Q sim sl hh
      rw [ev] at hh
      exact k1 B ι σw S σ H Q sim sl hh
    · cases h
  | .ifx c a b, g, X, W, x, w, h => by
    unfold okE at h
    split at h
    · simp only [Bool.and_eq_true] at h
      have ec := wE c w h.1.1
      have ea := wE a w h.1.2
      have eb := wE b w h.2
      refine ⟨?_, ?_, isBool_no rfl⟩
      · have := sE_if (pos := by assumption) ec.2.1 ea.1 eb.1
        intro B ι σw S σ H Q sim sl hh
        rw [ev] at hh
        exact this B ι σw S σ H Q sim sl hh
      · have := sT_if (pos := by assumption) ec.2.1 ea.2.1 eb.2.1
        intro B ι σw S σ H Q sim sl hh
        rw [ev] at hh
        exact this B ι σw S σ H Q sim sl hh
    · cases h
  | .tup es, g, X, W, x, w, h => by
    unfold okE at h
    split at h
    · refine .val ?_ rfl fun _ => rfl
      have := sE_tup (k := by assumption) (pos := by assumption) (wA es w h)
      intro B ι σw S σ H Q sim sl hh
      rw [ev] at hh
      exact this B ι σw S σ H Q sim sl hh
    · cases h
  | .lst box es, g, X, W, x, w, h => by
    unfold okE at h
    split at h
    · refine .val ?_ rfl fun _ => rfl
      have := sE_lst (box := box) (pos := by assumption) (wA es w h)
      intro B ι σw S σ H Q sim sl hh
      rw [ev] at hh
      exact this B ι σw S σ H Q sim sl hh
    · cases h
  | .dic tk, g, X, W, x, w, h => by
    unfold okE at h
    split at h
    · refine .val ?_ rfl fun _ => rfl
      have := sE_dic (X := X) (cad := cad) (W := W) (tk := tk) (pos := by assumption)
      intro B ι σw S σ H Q sim sl hh
      rw [ev] at hh
      exact this B ι σw S σ H Q sim sl hh
    · cases h
  | .sub a i, g, X, W, x, w, h => by
    unfold okE at h
    split at h
    · simp only [Bool.and_eq_true] at h
      refine .val ?_ rfl fun _ => rfl
      have := sE_sub (pos := by assumption) h.2 (by have := w.un; omega) (wE a w h.1.1).1 (wE i w h.1.2).1
      intro B ι σw S σ H Q sim sl hh
      rw [ev] at hh
      exact this B ι σw S σ H Q sim sl hh
    · cases h
  | .slc box a lo hi, g, X, W, x, w, h => by
    unfold okE at h
    split at h
    · simp only [Bool.and_eq_true] at h
      refine .val ?_ rfl fun _ => rfl
      have := snd_slc (box := box) (pos := by assumption) (p2 := by assumption) (wE a w h.1.1).1 (wO lo w h.1.2) (wO hi w h.2)
      intro B ι σw S σ H Q sim sl hh
      rw [ev] at hh
      exact this B ι σw S σ H Q sim sl hh
    · cases h
  | .att a f, g, X, W, x, w, h => by
    unfold okE at h
    split at h
    · simp only [Bool.and_eq_true] at h
      obtain rfl := strEq_eq h.1.2
      refine .val ?_ rfl fun _ => rfl
      have := snd_att (f := f) (pos := by assumption) h.2 (wE a w h.1.1).1
      intro B ι σw S σ H Q sim sl hh
      rw [ev] at hh
      exact this B ι σw S σ H Q sim sl hh
    · cases h
  | .call fz f es, g, X, W, x, w, h => by
    unfold okE at h
    split at h
    · rename_i x p xs pos
      simp only [Bool.and_eq_true] at h
      obtain ⟨⟨⟨hc, hg⟩, hf⟩, he⟩ := h
      refine .val ?_ rfl fun _ => rfl
      split at hf
      · rename_i y hy
        obtain rfl := strEq_eq hf
        obtain ⟨fa, h1, h2, h3⟩ := w.st.fns f y hy
        obtain ⟨g1, g2⟩ := w.gl hg
        have := snd_callF (pos := pos) (p := p) (f := fun xs S => if fz = true then frzCall (envOf P n) f xs S else (envOf P n).call f xs S) (okEs_ns he).1 g1 h1 h2 g2 (wA es w he) (evs0 he) (fun B ι1 H1 S1 xs vs σ Q sim r hp => by
          cases fz with
          | true => exact frzCall_ok h3 ((w.room hc).mono (Nat.le_succ (2 * n + 2))) w.tk sim r hp
          | false => exact call_fnat h3 ((w.room hc).mono (Nat.le_succ (2 * n + 2))) w.tk sim r hp)
        intro B ι σw S σ H Q sim sl hh
        rw [ev] at hh
        exact this B ι σw S σ H Q sim sl hh
      · cases hf
    · cases h
  | .make fz c es, g, X, W, x, w, h => by
    unfold okE at h
    split at h
    · rename_i x p xs pos
      simp only [Bool.and_eq_true] at h
      obtain ⟨⟨⟨⟨hc, hg⟩, hx⟩, hct⟩, he⟩ := h
      refine .val ?_ rfl fun _ => rfl
      obtain rfl := strEq_eq hx
      obtain ⟨A, fi, h1, h2, h3, h4, h5, h6⟩ := w.st.cls c (by simpa using hct)
      obtain ⟨g1, g2⟩ := w.gl hg
      have := snd_callF (pos := pos) (p := p) (f := fun xs S => if fz = true then frzMake (envOf P n) c xs S else rawMake (envOf P n) c xs S) (okEs_ns he).1 g1 h1 h2 g2 (wA es w he) (evs0 he) (fun B ι1 H1 S1 xs vs σ Q sim r hp => by
          cases fz with
          | true => exact frzMake_ok h4 h3 h5 h6 (w.room hc) w.tk sim r hp
          | false => exact rawMake_ok h4 h3 h5 h6 (w.room hc) w.tk sim r hp)
      intro B ι σw S σ H Q sim sl hh
      rw [ev] at hh
      exact this B ι σw S σ H Q sim sl hh
    · cases h
  | .meth fz a m es, g, X, W, x, w, h => by
    unfold okE at h
    split at h
    · rename_i x mn apos xs pos
      simp only [Bool.and_eq_true] at h
      obtain ⟨⟨⟨⟨⟨⟨⟨hc, ha⟩, hm⟩, hmt⟩, hsu⟩, hline⟩, he⟩, hl⟩ := h
      refine .val ?_ rfl fun _ => rfl
      obtain rfl := strEq_eq hm
      have hlen := (okEs_ns he).2
      have hl' : xs.length < 30 := by rw [hlen]; have := of_decide_eq_true hl; omega
      have := snd_methF (pos := pos) (has := fun C => (envOf P n).has (C ++ "." ++ m)) (f := fun C xs S => if fz = true then frzCall (envOf P n) (C ++ "." ++ m) xs S else (envOf P n).call (C ++ "." ++ m) xs S)
        (okEs_ns he).1 hl' hsu hline (wE a w ha).1 (wA es w he) (evs0 he) (fun C A hC hh => by
          obtain ⟨gx, h4, h5⟩ := w.st.mts C A m hC (by simpa using hmt) hh
          refine ⟨gx, h4, fun B ι1 H1 S1 xs vs σ Q sim r hp => ?_⟩
          cases fz with
          | true => exact frzCall_ok h5 ((w.room hc).mono (Nat.le_succ (2 * n + 2))) w.tk sim r hp
          | false => exact call_fnat h5 ((w.room hc).mono (Nat.le_succ (2 * n + 2))) w.tk sim r hp)
      intro B ι σw S σ H Q sim sl hh
      rw [ev] at hh
      exact this B ι σw S σ H Q sim sl hh
    · cases h
  | .blt b es, g, X, W, x, w, h => by
    unfold okE at h
    split at h
    · rename_i x p xs pos
      simp only [Bool.and_eq_true] at h
      obtain ⟨⟨⟨⟨⟨hc, hg⟩, hx⟩, hbt⟩, he⟩, hl⟩ := h
      refine .val ?_ rfl fun _ => rfl
      obtain rfl := strEq_eq hx
      obtain ⟨g1, g2⟩ := w.gl hg
      obtain ⟨b1, b2⟩ := bltBoot b
      cases xs with
      | nil => have := (okEs_ns he).2; have := of_decide_eq_true hl; simp at *; omega
      | cons y ys =>
        have := snd_blt (pos := pos) (p := p) (b := b) (w.calm hc) (okEs_ns he).1 g1 (w.st.bts _ (by simpa using hbt)) b1 b2 g2 (fun xs S => blt_noexc) (wA es w he)
        intro B ι σw S σ H Q sim sl hh
        rw [ev] at hh
        exact this B ι σw S σ H Q sim sl hh
    · cases h
  | .isi a ts, g, X, W, x, w, h => by
    unfold okE at h
    split at h
    · rename_i x p y z pos
      simp only [Bool.and_eq_true] at h
      obtain ⟨⟨⟨⟨⟨⟨⟨hne, hlt⟩, hg⟩, hx⟩, hbt⟩, ha⟩, hn⟩, hz⟩ := h
      refine .val ?_ rfl fun _ => rfl
      obtain rfl := strEq_eq hx
      obtain ⟨g1, g2⟩ := w.gl hg
      have := snd_isi (t := t) (g := g) (C := envOf P n) (pos := pos) (p := p) (z := z) (ts := ts) w.st.kinds w.st.insk w.st.isa w.st.tys (fun x hx => w.gl hx) g1 (w.st.bts _ (by simpa using hbt)) hn (wE a w ha).1 (by simpa using hne)
        (by have := of_decide_eq_true hlt; have := sizeLine_eq; omega) hz
      intro B ι σw S σ H Q sim sl hh
      rw [ev] at hh
      exact this B ι σw S σ H Q sim sl hh
    · cases h
  | .bm m box a es, g, X, W, x, w, h => by
    unfold okE at h
    split at h
    · rename_i x mn apos xs pos
      simp only [Bool.and_eq_true] at h
      obtain ⟨⟨⟨⟨⟨⟨ha, hm⟩, hsu⟩, hline⟩, he⟩, hl⟩, hb⟩ := h
      refine .val ?_ rfl fun _ => rfl
      obtain rfl := strEq_eq hm
      have hlen := (okEs_ns he).2
      have hl' : xs.length < 30 := by rw [hlen]; have := of_decide_eq_true hl; omega
      obtain ⟨⟨T, id⟩, hb'⟩ := Option.isSome_iff_exists.mp hb
      have := snd_bm (pos := pos) (box := box) hb' (by have := w.un; omega) (okEs_ns he).1 hl' hsu hline (wE a w ha).1 (wA es w he) (evs0 he)
      intro B ι σw S σ H Q sim sl hh
      rw [ev] at hh
      exact this B ι σw S σ H Q sim sl hh
    · cases h
  | .comp box elt tg it cond own, g, X, W, x, w, h => by
    unfold okE at h
    split at h
    · rename_i x y z ifs scope pos
      simp only [Bool.and_eq_true] at h
      obtain ⟨⟨⟨⟨⟨⟨hb, hi⟩, hns⟩, hc⟩, hg⟩, he⟩, hcd⟩ := h
      refine .val ?_ rfl fun _ => rfl
      have hz : notSet z = true := by
        cases it with
        | ex e => unfold okI at hi; simp only [Bool.and_eq_true] at hi; exact hi.2
        | items e => unfold okI at hi; cases hi
        | _ => unfold okI at hi; split at hi <;> first | rfl | cases hi
      have := sndE_comp (box := box) (pos := pos) (ownX := ownOf g own) (own := own) (ns := tgN tg) (w.calm hc) w.nd (by rw [w.hN, w.sc]; exact blkOk_by hb) (by
          unfold ownOf; rw [List.map_map]; exact List.map_id'' (fun _ => rfl) own) (fun j hj => by
          rw [List.all_eq_true] at hns
          simpa using hns j hj) hz (wI it w hi) (fun s H0 C cl fp => wG tg (w.blk scope s H0 C cl fp) hg) (fun s H0 C cl fp => wC cond (w.blk scope s H0 C cl fp) hcd) (fun s H0 C cl fp => (wE elt (w.blk scope s H0 C cl fp) he).1)
      intro B ι σw S σ H Q sim sl hh
      rw [ev] at hh
      exact this B ι σw S σ H Q sim sl hh
    · cases h
  | .frz a, g, X, W, x, w, h => by
    unfold okE at h
    rw [Bool.and_eq_true] at h
    have := snd_frz (wE a w h.1).1
    cases x with
    | Call f xs kws pos => exact .val this rfl fun _ => rfl
    | _ => cases h.2
theorem wA : ∀ (es : Exs) {g : Gc} {X : Cx} {W : WX} {xs : List Expr}, Wd t P cad n g X W → okEs t g es xs = true → SndA X cad W xs (evs (envOf P n) es)
  | .nil, g, X, W, [], w, h => sndA_nil
  | .nil, g, X, W, _ :: _, w, h => by simp [okEs] at h
  | .cons e es, g, X, W, [], w, h => by simp [okEs] at h
  | .cons e es, g, X, W, x :: xs, w, h => by
    simp only [okEs, Bool.and_eq_true] at h
    have := sndA_cons h.1.2 (wE e w h.1.1).1 (wA es w h.2)
    intro B ι σw S σ H Q sim sl hh
    rw [evs] at hh
    exact this B ι σw S σ H Q sim sl hh
theorem wO : ∀ (o : OEx) {g : Gc} {X : Cx} {W : WX} {x : Option Expr}, Wd t P cad n g X W → okO t g o x = true → SndO X cad W x (evo (envOf P n) o)
  | .no, g, X, W, none, w, h => sndO_none
  | .no, g, X, W, some _, w, h => by simp [okO] at h
  | .so e, g, X, W, none, w, h => by simp [okO] at h
  | .so e, g, X, W, some x, w, h => by
    simp only [okO] at h
    have := sndO_some (wE e w h).1
    intro B ι σw S σ H Q sim sl hh
    rw [evo] at hh
    exact this B ι σw S σ H Q sim sl hh
theorem wC : ∀ (o : OEx) {g : Gc} {X : Cx} {xs : List Expr}, Wd t P cad n g X Wno → okC t g o xs = true → SndTs X cad xs (evc (envOf P n) o)
  | .no, g, X, [], w, h => sndTs_nil
  | .no, g, X, _ :: _, w, h => by simp [okC] at h
  | .so e, g, X, [], w, h => by simp [okC] at h
  | .so e, g, X, [x], w, h => by
    simp only [okC] at h
    have := sndTs_one (wE e w h).2.1
    intro B ι σw S σ H Q sim sl hh
    rw [evc] at hh
    exact this B ι σw S σ H Q sim sl hh
  | .so e, g, X, _ :: _ :: _, w, h => by simp [okC] at h
theorem wI : ∀ (it : It) {g : Gc} {X : Cx} {W : WX} {tg x : Expr}, Wd t P cad n g X W → okI t g tg it x = true → SndI X cad W tg x (evi (envOf P n) it)
  | .ex e, g, X, W, tg, x, w, h => by
    simp only [okI, Bool.and_eq_true] at h
    have := sndI_ex (tg := tg) (wE e w h.1).1
    intro B ι σw S σ H Q sim sl hh
    rw [evi] at hh
    exact this B ι σw S σ H Q sim sl hh
  | .rng es, g, X, W, tg, x, w, h => by
    unfold okI at h
    split at h
    · rename_i x p xs pos
      simp only [Bool.and_eq_true] at h
      obtain ⟨⟨⟨⟨⟨hg, hx⟩, hbt⟩, he⟩, h0⟩, h4⟩ := h
      obtain rfl := strEq_eq hx
      have hl := (okEs_ns he).2
      have := sndI_rng (tg := tg) (p := p) (pos := pos) (w.gl hg).1 (w.st.bts _ (by simpa using hbt)) (okEs_ns he).1 (by rw [hl]; exact of_decide_eq_true h0) (by rw [hl]; exact of_decide_eq_true h4) (wA es w he) (fun σ S vs S' e => by rw [hl]; exact evs_len e)
      intro B ι σw S σ H Q sim sl hh
      rw [evi] at hh
      exact this B ι σw S σ H Q sim sl hh
    · cases h
  | .enum a, g, X, W, tg, x, w, h => by
    unfold okI at h
    split at h
    · rename_i x p y pos
      simp only [Bool.and_eq_true] at h
      obtain ⟨⟨⟨⟨⟨hg, ht⟩, hx⟩, hbt⟩, he⟩, hn⟩ := h
      obtain rfl := strEq_eq hx
      have := sndI_enum (p := p) (pos := pos) ht (w.gl hg).1 (w.st.bts _ (by simpa using hbt)) hn (wE a w he).1
      intro B ι σw S σ H Q sim sl hh
      rw [evi] at hh
      exact this B ι σw S σ H Q sim sl hh
    · cases h
  | .zip a b, g, X, W, tg, x, w, h => by
    unfold okI at h
    split at h
    · rename_i x p y z pos
      simp only [Bool.and_eq_true] at h
      obtain ⟨⟨⟨⟨⟨⟨⟨hg, ht⟩, hx⟩, hbt⟩, ha⟩, hn⟩, hb⟩, hn2⟩ := h
      obtain rfl := strEq_eq hx
      have := sndI_zip (p := p) (pos := pos) ht (w.gl hg).1 (w.st.bts _ (by simpa using hbt)) hn hn2 (wE a w ha).1 (wE b w hb).1
      intro B ι σw S σ H Q sim sl hh
      rw [evi] at hh
      exact this B ι σw S σ H Q sim sl hh
    · cases h
  | .items a, g, X, W, tg, x, w, h => by unfold okI at h; cases h
  | .rev a, g, X, W, tg, x, w, h => by
    unfold okI at h
    split at h
    · rename_i x p y pos
      simp only [Bool.and_eq_true] at h
      obtain ⟨⟨⟨⟨hg, hx⟩, hbt⟩, he⟩, hn⟩ := h
      obtain rfl := strEq_eq hx
      have := sndI_rev (tg := tg) (p := p) (pos := pos) (w.gl hg).1 (w.st.bts _ (by simpa using hbt)) hn (wE a w he).1
      intro B ι σw S σ H Q sim sl hh
      rw [evi] at hh
      exact this B ι σw S σ H Q sim sl hh
    · cases h
theorem wG : ∀ (tg : Tg) {g : Gc} {X : Cx} {W : WX} {x : Expr}, Wd t P cad n g X W → okT t g tg x = true → SndG X cad x (tgN tg) (asg (envOf P n) tg)
  | .name i, g, X, W, x, w, h => by
    unfold okT at h
    split at h
    · obtain ⟨h1, h2, h3⟩ := w.store h
      exact sndG_name w.nd h1 h2 h3
    · cases h
  | .att a f, g, X, W, x, w, h => by
    unfold okT at h
    split at h
    · simp only [Bool.and_eq_true] at h
      obtain rfl := strEq_eq h.2
      exact sndG_att (fun c A h1 h2 => w.st.fld c A _ h1 h2) (wE a w.no h.1).1
    · cases h
  | .sub a i, g, X, W, x, w, h => by
    unfold okT at h
    split at h
    · simp only [Bool.and_eq_true] at h
      exact sndG_sub (by have := w.un; omega) h.2 (wE a w.no h.1.1).1 (wE i w.no h.1.2).1
    · cases h
  | .tup ts, g, X, W, x, w, h => by
    unfold okT at h
    split at h
    · rw [Bool.and_eq_true] at h
      exact sndG_tup (w.calm h.1) (okTs_ns h.2).2 (okTs_ns h.2).1 (wGs ts w h.2)
    · cases h
theorem wGs : ∀ (ts : Tgs) {g : Gc} {X : Cx} {W : WX} {xs : List Expr}, Wd t P cad n g X W → okTs t g ts xs = true → SndGs X cad xs (tgsN ts) (asgs (envOf P n) ts)
  | .nil, g, X, W, [], w, h => sndGs_nil
  | .nil, g, X, W, _ :: _, w, h => by simp [okTs] at h
  | .cons e es, g, X, W, [], w, h => by simp [okTs] at h
  | .cons e es, g, X, W, x :: xs, w, h => by
    simp only [okTs, Bool.and_eq_true] at h
    exact sndGs_cons h.1.2 (wG e w h.1.1) (wGs es w h.2)
end
end
end E1

set_option maxHeartbeats 1000000
/-! E1: statements. -/
namespace E1
open PySem PySem.Spec PyProof.Rows L2

/-! ### whether a statement is mine -/
def isLC : Expr → Bool
  | .ListComp _ _ _ _ => true
  | .SetComp _ _ _ _ => true
  | .DictComp _ _ _ _ _ => true
  | _ => false
def namesOf (g : Gc) (line : Nat) (ts : List Expr) : List Str := ts.filterMap fun e => match e with
  | .Name id pos => if g.sc.names.lookup id == some .local && pos.line == line then some id else none
  | _ => none
def isStarE : Expr → Bool
  | .Starred _ _ => true
  | _ => false
def swNone (g : Gc) (tg e : Expr) : Bool :=
  match tg, e with
  | .Tuple ts _ _, .Tuple vs _ _ => (!(ts.length == 2 || ts.length == 3) || vs.length != ts.length) || ((namesOf g ((ts.head?.map (·.pos.line)).getD 0) ts).length != ts.length) || vs.all (foldedForSure 8)
  | .List _ _, _ => false
  | _, _ => true
def swPar (g : Gc) (x y : Str) (px py : Pos) (a b : Expr) : Bool :=
  g.sc.names.lookup x == some .local && g.sc.names.lookup y == some .local && px.line == py.line && !(x == y) && notStar a && notStar b && !([a, b].all (foldedForSure 8)) && !([a, b].all (constantsAlone 8))
def notSD : Expr → Bool
  | .SetComp _ _ _ _ => false
  | .DictComp _ _ _ _ _ => false
  | _ => true
def swLC (g : Gc) (tg e : Expr) : Bool :=
  match tg, e with
  | .Name y py, .ListComp _ _ scope pos => g.sc.names.lookup y == some .local && py.line == pos.line && !(scope.names.any fun (n, k) => n == y && (k == .local || k == .cell))
  | _, _ => false
mutual
def okS (t : Tab) (g : Gc) : St → Stmt → Bool
  | .expr e, st => match st with
    | .Expr x _ => okE t g e x && !isLC x
    | _ => false
  | .asg tg e, st => match st with
    | .Assign [y] x _ => okT t g tg y && okE t g e x && swNone g y x && notSD x && notStar y
    | _ => false
  | .par i j a b, st => match st with
    | .Assign [.Tuple [.Name x px, .Name y py] _ _] (.Tuple [u, v] _ _) _ => g.calm && okStore g i x && okStore g j y && okE t g a u && okE t g b v && swPar g x y px py u v
    | _ => false
  | .aug i op e, st => match st with
    | .AugAssign (.Name x _) o v _ => okStore g i x && okName g i x && okE t g e v && (match op, o with | .add, .Add => true | .sub, .Sub => true | _, _ => false)
    | _ => false
  | .ite c a b, st => match st with
    | .If x p q _ => okE t g c x && okSs t g a p && okSs t g b q
    | _ => false
  | .for_ tg it body, st => match st with
    | .For y z p [] _ => g.calm && okI t g y it z && okT t g tg y && okSs t g body p
    | _ => false
  | .while_ c body, st => match st with
    | .While x p [] _ => okE t g c x && okSs t g body p
    | _ => false
  | .ret e, st => match st with
    | .Return (some x) _ => okE t g e x
    | _ => false
  | .retN, st => match st with
    | .Return none _ => true
    | _ => false
  | .pass, st => match st with
    | .Pass _ => true
    | _ => false
  | .cont, st => match st with
    | .Continue _ => true
    | _ => false
  | .brk, st => match st with
    | .Break _ => true
    | _ => false
  | .raise c es, st => match st with
    | .Raise (some (.Call (.Name x _) xs [] _)) none _ => g.calm && okGlob g x && strEq x c && (t.xs.lookup c).isSome && okEs t g es xs && decide (0 < lenE es)
    | _ => false
  | .try_ body hs, st => match st with
    | .Try b [.ExceptHandler (some (.Name x _)) nm (s0 :: ss) _] [] [] _ => g.calm && okSs t g body b && (match hs with
      | .cons [c] name suite .nil => strEq x c && okGlob g x && (t.xs.lookup c).isSome && okSs t ⟨g.N, g.sc, g.fnc, false⟩ suite (s0 :: ss) && (match name, nm with
        | some i, some n => (match g.N[i]? with | some y => strEq n y | none => false) && g.sc.names.lookup n == some .local
        | none, none => true
        | _, _ => false)
      | _ => false)
    | _ => false
  | .fz _ _, _ => false
def okSs (t : Tab) (g : Gc) : Sts → List Stmt → Bool
  | .nil, [] => true
  | .cons s ss, x :: xs => okS t g s x && okSs t g ss xs
  | _, _ => false
end

/-! ### meanings -/
def sSt (X : Cx) (st : Stmt) : TS := fun D σ H => ∀ (pins : List (Addr × Obj)) (s : Shared), Inv X pins σ H s → wpAny (model X.prog X.w) X.A (exec st X.env) (SP X pins D) X.xe s
def sSts (X : Cx) (st : List Stmt) : TS := fun D σ H => ∀ (pins : List (Addr × Obj)) (s : Shared), Inv X pins σ H s → wpAny (model X.prog X.w) X.A (execs st X.env) (SP X pins D) X.xe s
theorem ps_sem {X : Cx} {st : Stmt} : PS X st (sSt X st) := ⟨fun pins s _ _ _ I h => h pins s I⟩
theorem pss_sem {X : Cx} {st : List Stmt} : PSs X st (sSts X st) := ⟨fun pins s _ _ _ I h => h pins s I⟩
theorem sSt.of {X : Cx} {st : Stmt} {t : TS} {D : Ends} {σ : L2.St} {H : Hp} (h : PS X st t) (q : t D σ H) : sSt X st D σ H := fun pins s I => h.run pins s σ H D I q
theorem sSts.of {X : Cx} {st : List Stmt} {t : TS} {D : Ends} {σ : L2.St} {H : Hp} (h : PSs X st t) (q : t D σ H) : sSts X st D σ H := fun pins s I => h.run pins s σ H D I q

def PostS (K : Frag) (cad : String → Option Addr) (ι : List Addr) (B : Addr → Prop) (H : Hp) (W : WX) (D : Ends) : RS → Prop
  | .nx σ S => ∀ ι' σ' H', Step K ι H ι' H' → Sim K cad ι' B H' S → Slo K cad ι' B H' σ σ' → D.nx σ' H'
  | .brk σ S => ∀ ι' σ' H', Step K ι H ι' H' → Sim K cad ι' B H' S → Slo K cad ι' B H' σ σ' → D.bk σ' H'
  | .cnt σ S => ∀ ι' σ' H', Step K ι H ι' H' → Sim K cad ι' B H' S → Slo K cad ι' B H' σ σ' → D.ct σ' H'
  | .ret d _ S => ∀ ι' v H', Step K ι H ι' H' → Sim K cad ι' B H' S → VRel K cad ι' B H' d v → D.rt v H'
  | .exc x σ S => ∀ ι' σ' cls dd H', Step K ι H ι' H' → Sim K cad ι' B H' S → Slo K cad ι' B H' σ σ' → ExnR K cad ι' B H' x cls dd → W cls dd σ' H'
  | .no => False
section
variable {X : Cx} {cad : String → Option Addr} {W : WX} {tg e a b c : Expr} {es : List Expr} {stm : Stmt} {stms : List Stmt} {ma mb mc : Slots → Store → E1.R D} {p pos : Pos} {m : Slots → Store → RS}
variable {ι ι' : List Addr} {B : Addr → Prop} {H H' : Hp} {S S' : Store} {σw : Slots} {σ : L2.St} {D : Ends}
theorem PostS.after {r : RS} (h : PostS X.K cad ι B H W D r) (s : Step X.K ι H ι' H') : PostS X.K cad ι' B H' W D r := by
  cases r with
  | nx σ S => exact fun ι2 σ2 H2 s2 sim sl => h ι2 σ2 H2 (s.trans s2) sim sl
  | brk σ S => exact fun ι2 σ2 H2 s2 sim sl => h ι2 σ2 H2 (s.trans s2) sim sl
  | cnt σ S => exact fun ι2 σ2 H2 s2 sim sl => h ι2 σ2 H2 (s.trans s2) sim sl
  | ret d σ S => exact fun ι2 v H2 s2 sim r => h ι2 v H2 (s.trans s2) sim r
  | exc x σ S => exact fun ι2 σ2 cls dd H2 s2 sim sl r => h ι2 σ2 cls dd H2 (s.trans s2) sim sl r
  | no => exact h
theorem PostS.st {α : Type} {r : E1.R α} {f : α → Store → RS} (h : PostS X.K cad ι B H W D (E1.R.st σw r f)) (sim : Sim X.K cad ι B H S) (sl : Slo X.K cad ι B H σw σ) : Post r (fun a S => PostS X.K cad ι B H W D (f a S)) (ExQ X.K cad ι B H fun c d H' => W c d σ H') := by
  cases r with
  | ok a S => exact h
  | exc x S1 => exact fun ι2 cls dd H2 s2 sim2 r => h ι2 σ cls dd H2 s2 sim2 (sl.mono sim s2) r
  | no => exact h
def SndS (X : Cx) (cad : String → Option Addr) (W : WX) (st : Stmt) (m : Slots → Store → RS) : Prop :=
  ∀ (B : Addr → Prop) (ι : List Addr) (σw : Slots) (S : Store) (σ : L2.St) (H : Hp) (D : Ends), Sim X.K cad ι B H S → Slo X.K cad ι B H σw σ → PostS X.K cad ι B H W D (m σw S) → sSt X st D σ H
def SndSs (X : Cx) (cad : String → Option Addr) (W : WX) (st : List Stmt) (m : Slots → Store → RS) : Prop :=
  ∀ (B : Addr → Prop) (ι : List Addr) (σw : Slots) (S : Store) (σ : L2.St) (H : Hp) (D : Ends), Sim X.K cad ι B H S → Slo X.K cad ι B H σw σ → PostS X.K cad ι B H W D (m σw S) → sSts X st D σ H

theorem sndSs_nil : SndSs X cad W [] (fun σ S => .nx σ S) := by
  intro B ι σw S σ H D sim sl h
  exact sSts.of pss_nil (h ι σ H .refl sim sl)
theorem sndSs_cons {m2 : Slots → Store → RS} (h1 : SndS X cad W stm m) (h2 : SndSs X cad W stms m2) : SndSs X cad W (stm :: stms) (fun σ S => (m σ S).bind fun σ S => m2 σ S) := by
  intro B ι σw S σ H D sim sl h
  refine sSts.of (pss_cons (ps_sem (st := stm)) (pss_sem (st := stms))) (h1 B ι σw S σ H _ sim sl ?_)
  cases e : m σw S with
  | nx σ1 S1 =>
    simp only [e, RS.bind] at h
    intro ι2 σ2 H2 s2 sim2 sl2
    exact h2 B ι2 σ1 S1 σ2 H2 D sim2 sl2 (h.after s2)
  | brk σ1 S1 => simp only [e, RS.bind] at h; exact h
  | cnt σ1 S1 => simp only [e, RS.bind] at h; exact h
  | ret d σ1 S1 => simp only [e, RS.bind] at h; exact h
  | exc x σ1 S1 => simp only [e, RS.bind] at h; exact h
  | no => simp only [e, RS.bind] at h; exact h
theorem notLC_none {x : Expr} {l : Nat} {env : PySem.Env} (h : isLC x = false) : swapsWith x none l env = pure false := by
  cases x <;> first | rfl | (simp [isLC] at h)
theorem notLC_some {x y : Expr} {l : Nat} {env : PySem.Env} (h : isLC x = false) : swapsWith x (some y) l env = pure false := by
  cases x <;> first | rfl | (simp [isLC] at h)
theorem sndS_expr (hn : isLC e = false) (he : SndE X cad W e ma) : SndS X cad W (.Expr e pos) (fun σ S => (ma σ S).st σ fun _ S => .nx σ S) := by
  intro B ι σw S σ H D sim sl h
  refine sSt.of (ps_expr (pos := pos) (pe_sem (e := e)) (notLC_none hn)) (he B ι σw S σ H _ sim sl ((h.st sim sl).imp (fun d S1 q => ?_) fun x S1 q => q))
  exact fun ι1 v H1 s1 sim1 r1 => q ι1 σ H1 s1 sim1 (sl.mono sim s1)
def asgF (ma : Slots → Store → E1.R E1.D) (mg : E1.D → Slots → Store → E1.R Slots) : Slots → Store → RS := fun σ S => (ma σ S).st σ fun d S => match mg d σ S with
    | .ok σ S => .nx σ S
    | _ => .no
theorem sndS_asg {ns : List Nat} {mg : E1.D → Slots → Store → E1.R Slots} (hs : ∀ l, swapsWithSole [tg] e l X.env = pure false) (hw : swappedStores [tg] e X.env = pure none) (h1 : notStar tg = true) (he : SndE X cad W e ma) (hg : SndG X cad tg ns mg) :
    SndS X cad W (.Assign [tg] e pos) (asgF ma mg) := by
  intro B ι σw S σ H D sim sl h
  refine sSt.of (ps_asg (pos := pos) (pe_sem (e := e)) (pg_sem (tg := tg)) (hs _) hw (by rw [each_ns h1]; rfl)) (he B ι σw S σ H _ sim sl ((h.st sim sl).imp (fun d S1 q => ?_) fun x S1 q => q))
  intro ι1 v H1 s1 sim1 r1
  refine hg B ι1 d v σw S1 σ H1 _ sim1 (sl.mono sim s1) r1 ?_
  cases eg : mg d σw S1 with
  | ok σ2 S2 =>
    simp only [eg] at q
    exact fun ι2 σ2' H2 s2 sim2 sl2 _ => q ι2 σ2' H2 (s1.trans s2) sim2 sl2
  | exc _ _ => simp only [eg] at q; exact q.elim
  | no => simp only [eg] at q; exact q.elim
theorem sndS_ret (he : SndE X cad W e ma) : SndS X cad W (.Return (some e) pos) (fun σ S => (ma σ S).st σ fun d S => .ret d σ S) := by
  intro B ι σw S σ H D sim sl h
  refine sSt.of (ps_ret (pos := pos) (pe_sem (e := e))) (he B ι σw S σ H _ sim sl ((h.st sim sl).imp (fun d S1 q => ?_) fun x S1 q => q))
  exact fun ι1 v H1 s1 sim1 r1 => q ι1 v H1 s1 sim1 r1
theorem sndS_retN : SndS X cad W (.Return none pos) (fun σ S => .ret .non σ S) := by
  intro B ι σw S σ H D sim sl h
  exact sSt.of (ps_retN (pos := pos)) (h ι .non H .refl sim .non)
theorem sndS_pass : SndS X cad W (.Pass pos) (fun σ S => .nx σ S) := by
  intro B ι σw S σ H D sim sl h
  exact sSt.of (ps_pass (pos := pos)) (h ι σ H .refl sim sl)
theorem sndS_cont : SndS X cad W (.Continue pos) (fun σ S => .cnt σ S) := by
  intro B ι σw S σ H D sim sl h
  exact sSt.of (ps_continue (pos := pos)) (h ι σ H .refl sim sl)
theorem sndS_brk : SndS X cad W (.Break pos) (fun σ S => .brk σ S) := by
  intro B ι σw S σ H D sim sl h
  exact sSt.of (ps_break (pos := pos)) (h ι σ H .refl sim sl)
def iteF (mc : Slots → Store → E1.R E1.D) (m1 m2 : Slots → Store → RS) : Slots → Store → RS := fun σ S => (mc σ S).st σ fun x S => match x with
    | .bl true => m1 σ S
    | .bl false => m2 σ S
    | _ => .no
theorem sndS_if {p1 p2 : List Stmt} {m1 m2 : Slots → Store → RS} (hc : SndT X cad W c mc) (h1 : SndSs X cad W p1 m1) (h2 : SndSs X cad W p2 m2) : SndS X cad W (.If c p1 p2 pos) (iteF mc m1 m2) := by
  intro B ι σw S σ H D sim sl h
  refine sSt.of (ps_if (pos := pos) (pt_sem (e := c)) (pss_sem (st := p1)) (pss_sem (st := p2))) (hc B ι σw S σ H _ sim sl ((h.st sim sl).imp (fun d S1 q => ?_) fun x S1 q => q))
  cases d with
  | bl k =>
    refine ⟨k, rfl, fun ι1 H1 s1 sim1 => ?_⟩
    cases k with
    | true => rw [if_pos rfl]; exact h1 B ι1 σw S1 σ H1 D sim1 (sl.mono sim s1) (PostS.after q s1)
    | false => rw [if_neg (by simp)]; exact h2 B ι1 σw S1 σ H1 D sim1 (sl.mono sim s1) (PostS.after q s1)
  | _ => exact q.elim
theorem sndS_aug {i : Nat} {x : Str} {op : Bop} {o : Operator} (hop : (op = .add ∧ o = .Add) ∨ (op = .sub ∧ o = .Sub)) (hN : X.N.Nodup) (hi : X.N[i]? = some x) (hx : Loc X.env.scope x) (hf : X.fn x = true ∨ X.env.scope.names.lookup x = some .local) (he : SndE X cad W e ma) :
    SndS X cad W (.AugAssign (.Name x p) o e pos) (fun σ S => match σ[i]? with
      | some (some x) => (ma σ S).st σ fun y S => (augF op x y S).st σ fun z S => .nx (σ.set i (some z)) S
      | _ => .no) := by
  intro B ι σw S σ H D sim sl h
  dsimp only at h
  split at h
  · rename_i d hd
    obtain ⟨v, hv, rv⟩ := sl.2 i d hd
    have hl : i < σw.length := (List.getElem?_eq_some_iff.mp hd).1
    have go : ∀ (op : Bop) (o : Operator) (f : Int → Int → Int), (∀ x y S, augF op (.int x) (.int y) S = .ok (.int (f x y)) S) → (∀ x y S, (∀ i j, ¬ (x = .int i ∧ y = .int j)) → augF op x y S = .no) → PIp X o (ipI f) →
        PostS X.K cad ι B H W D ((ma σw S).st σw fun y S => (augF op d y S).st σw fun z S => .nx (σw.set i (some z)) S) → sSt X (.AugAssign (.Name x p) o e pos) D σ H := by
      intro op o f hf1 hf2 hp h
      refine sSt.of (ps_aug (i := i) (pos := pos) (pos' := p) hN hi hx (pe_sem (e := e)) hp hf) ⟨v, hv, he B ι σw S σ H _ sim sl ((h.st sim sl).imp (fun y S1 q => ?_) fun x S1 q => q)⟩
      intro ι1 u H1 s1 sim1 r1
      by_cases hh : ∃ i j, d = .int i ∧ y = .int j
      · obtain ⟨k, j, rfl, rfl⟩ := hh
        rw [hf1] at q
        refine ⟨k, j, rv.intOf, r1.intOf, ?_⟩
        exact q ι1 _ H1 s1 sim1 ((sl.mono sim s1).set (.int _) hl)
      · rw [hf2 d y S1 (fun i j z => hh ⟨i, j, z⟩)] at q
        exact q.elim
    have nog : ∀ op, (op = Bop.add ∨ op = Bop.sub) → ∀ x y S, (∀ i j, ¬ (x = E1.D.int i ∧ y = E1.D.int j)) → augF op x y S = .no := by
      intro op ho x y S hh
      unfold augF
      split
      · exact absurd ⟨rfl, rfl⟩ (hh _ _)
      · exact absurd ⟨rfl, rfl⟩ (hh _ _)
      · rfl
    rcases hop with ⟨rfl, rfl⟩ | ⟨rfl, rfl⟩
    · exact go .add .Add (fun i j => i + j) (fun _ _ _ => rfl) (nog _ (.inl rfl)) ip_add h
    · exact go .sub .Sub (fun i j => i - j) (fun _ _ _ => rfl) (nog _ (.inr rfl)) ip_sub h
  · exact h.elim
theorem sndS_par {i j : Nat} {x y : Str} {px py pt pt2 : Pos} {kt k2 : Nat} (hc : X.calm = true) (hN : X.N.Nodup) (hi : X.N[i]? = some x) (hj : X.N[j]? = some y) (hij : i ≠ j) (hx : X.env.scope.names.lookup x = some .local) (hy : X.env.scope.names.lookup y = some .local)
    (hn : notStar a = true) (hn2 : notStar b = true) (hw : swappedStores [.Tuple [.Name x px, .Name y py] kt pt] (.Tuple [a, b] k2 pt2) X.env = pure (some [x, y])) (ha : SndE X cad W a ma) (hb : SndE X cad W b mb) :
    SndS X cad W (.Assign [.Tuple [.Name x px, .Name y py] kt pt] (.Tuple [a, b] k2 pt2) pos) (fun σ S => (ma σ S).st σ fun x S => (mb σ S).st σ fun y S => if i < σ.length ∧ j < σ.length then .nx ((σ.set i (some x)).set j (some y)) S else .no) := by
  intro B ι σw S σ H D sim sl h
  refine sSt.of (ps_par (pos := pos) hc hN hi hj hij hx hy (pa_sem (es := [a, b])) hw) ?_
  refine aSem2 hn hn2 (ha B ι σw S σ H _ sim sl ((h.st sim sl).imp (fun d S1 q => ?_) fun x S1 q => q))
  intro ι1 v H1 s1 sim1 r1
  have sl1 := sl.mono sim s1
  have q1 : PostS X.K cad ι1 B H1 W D _ := PostS.after q s1
  refine hb B ι1 σw S1 σ H1 _ sim1 sl1 ((q1.st sim1 sl1).imp (fun d2 S2 q => ?_) fun x S1 q => q)
  intro ι2 v2 H2 s2 sim2 r2
  by_cases hl : i < σw.length ∧ j < σw.length
  · simp only [if_pos hl] at q
    exact ⟨v, v2, rfl, q ι2 _ H2 s2 sim2 (((sl1.mono sim1 s2).set (r1.mono sim1 s2 fun _ q => q) hl.1).set r2 (by simp; exact hl.2))⟩
  · simp only [if_neg hl] at q; exact q.elim

/-! ### loops -/
theorem sndS_for {z : Expr} {body : List Stmt} {ns : List Nat} {mi : Slots → Store → E1.R (List E1.D × Option (Nat × List E1.D))} {mg : E1.D → Slots → Store → E1.R Slots} {mb : Slots → Store → RS} (hp : PassesOwn (model X.prog X.w) X.A X.env X.xe) (hc : X.calm = true) (hz : notSet z = true)
    (hi : SndI X cad W tg z mi) (hg : SndG X cad tg ns mg) (hb : SndSs X cad W body mb) : SndS X cad W (.For tg z body [] pos) (fun σ S => (mi σ S).st σ fun w S => forL mg mb w.2 w.1 σ S) := by
  intro B ι σw S σ H D sim sl h
  refine sSt.of (ps_for (pos := pos) hp hc (pi_sem (tg := tg) (iter := z)) (pg_sem (tg := tg)) (pss_sem (st := body)) (fun x => by cases z <;> first | rfl | (simp [notSet] at hz))) ?_
  refine hi B ι σw S σ H _ sim sl ((h.st sim sl).imp (fun w S1 q => ?_) fun x S1 q => q)
  intro ι1 J H1 s1 sim1 walk
  obtain ⟨xs, ck⟩ := w
  dsimp only at q walk
  let Wv : Nat → L2.St → Hp → Prop := fun i σ2 H2 => i ≤ xs.length ∧ ∃ ι2 σw2 S2, Step X.K ι1 H1 ι2 H2 ∧ Sim X.K cad ι2 B H2 S2 ∧ Slo X.K cad ι2 B H2 σw2 σ2 ∧ PostS X.K cad ι1 B H1 W D (forL mg mb ck (xs.drop i) σw2 S2)
  refine ⟨fun i m σ2 H2 => m = xs.length - i ∧ Wv i σ2 H2, ⟨xs.length, by simp, Nat.zero_le _, ι1, σw, S1, .refl, sim1, sl.mono sim s1, PostS.after q s1⟩, ?_⟩
  rintro i m σ2 H2 ⟨rfl, hil, ι2, σw2, S2, st2, sim2, sl2, h2⟩
  have hst : stands S2 ck := by
    by_cases hl : i < xs.length
    · rw [List.drop_eq_getElem_cons hl] at h2
      unfold forL at h2
      split at h2
      · assumption
      · exact h2.elim
    · rw [List.drop_of_length_le (by omega)] at h2
      unfold forL at h2
      split at h2
      · assumption
      · exact h2.elim
  obtain ⟨wstop, wgo⟩ := walk B ι2 H2 S2 (fun a z => z) st2 sim2 (fun a z1 z2 => absurd z1 z2) hst
  by_cases hl : i < xs.length
  · obtain ⟨hgo, hyld⟩ := wgo i xs[i] (List.getElem?_eq_getElem hl)
    refine .inr ⟨hgo, Wv (i + 1), fun σ' H' p' => ⟨xs.length - (i + 1), by omega, rfl, p'⟩, fun v H3 hy => ?_⟩
    obtain ⟨st3, sim3, rv⟩ := hyld v H3 hy trivial
    rw [List.drop_eq_getElem_cons hl] at h2
    unfold forL at h2
    rw [if_pos hst] at h2
    refine hg B ι2 xs[i] v σw2 S2 σ2 H3 _ sim3 (sl2.mono sim2 st3) rv ?_
    cases eg : mg xs[i] σw2 S2 with
    | no => rw [eg] at h2; exact h2.elim
    | exc x Sx => rw [eg] at h2; exact h2.elim
    | ok σ4 S4 =>
      rw [eg] at h2
      dsimp only at h2
      intro ι4 σ5 H4 st4 sim4 sl4 same
      have st14 : Step X.K ι1 H1 ι4 H4 := (st2.trans st3).trans st4
      refine hb B ι4 σ4 S4 σ5 H4 _ sim4 sl4 ?_
      cases eb : mb σ4 S4 with
      | nx σ6 S6 =>
        rw [eb] at h2
        exact fun ι6 σ7 H6 st6 sim6 sl6 => ⟨hl, ι6, σ6, S6, st14.trans st6, sim6, sl6, h2⟩
      | cnt σ6 S6 =>
        rw [eb] at h2
        exact fun ι6 σ7 H6 st6 sim6 sl6 => ⟨hl, ι6, σ6, S6, st14.trans st6, sim6, sl6, h2⟩
      | brk σ6 S6 =>
        rw [eb] at h2
        exact fun ι6 σ7 H6 st6 sim6 sl6 => h2 ι6 σ7 H6 (st14.trans st6) sim6 sl6
      | ret d σ6 S6 =>
        rw [eb] at h2
        exact fun ι6 u H6 st6 sim6 r6 => h2 ι6 u H6 (st14.trans st6) sim6 r6
      | exc x σ6 S6 =>
        rw [eb] at h2
        exact fun ι6 σ7 cls dd H6 st6 sim6 sl6 r6 => h2 ι6 σ7 cls dd H6 (st14.trans st6) sim6 sl6 r6
      | no => rw [eb] at h2; exact h2.elim
  · have e : i = xs.length := by omega
    subst e
    refine .inl ⟨wstop _ (Nat.le_refl _), ?_⟩
    rw [List.drop_of_length_le (Nat.le_refl _)] at h2
    unfold forL at h2
    rw [if_pos hst] at h2
    exact h2 ι2 σ2 H2 st2 sim2 sl2
theorem sndS_while {body : List Stmt} {mb : Slots → Store → RS} (hp : PassesOwn (model X.prog X.w) X.A X.env X.xe) (hc : SndT X cad W c mc) (hb : SndSs X cad W body mb) :
    SndS X cad W (.While c body [] pos) (fun σ S => whileW (turnW (fun σ S => asB (mc σ S)) mb) (σ, S)) := by
  intro B ι σw S σ H D sim sl h
  refine sSt.of (ps_while (pos := pos) hp (pt_sem (e := c)) (pss_sem (st := body))) ?_
  dsimp only at h
  unfold whileW at h
  split at h
  · rename_i hh
    obtain ⟨r, hr⟩ := Option.isSome_iff_exists.mp hh.choose_spec
    rw [hr] at h
    have h : PostS X.K cad ι B H W D r := h
    refine ⟨fun k σ2 H2 => ∃ ι2 σw2 S2, Step X.K ι H ι2 H2 ∧ Sim X.K cad ι2 B H2 S2 ∧ Slo X.K cad ι2 B H2 σw2 σ2 ∧ iterW (turnW (fun σ S => asB (mc σ S)) mb) k (σw2, S2) = some r, ⟨hh.choose, ι, σw, S, .refl, sim, sl, hr⟩, ?_⟩
    rintro k σ2 H2 ⟨ι2, σw2, S2, st2, sim2, sl2, hk⟩
    cases k with
    | zero => cases hk
    | succ k =>
      unfold iterW at hk
      have h' := h.after st2
      refine hc B ι2 σw2 S2 σ2 H2 _ sim2 sl2 ?_
      cases ec : mc σw2 S2 with
      | no => simp only [turnW, asB, ec] at hk; cases hk; exact h.elim
      | exc x S3 =>
        simp only [turnW, asB, ec] at hk
        cases hk
        exact fun ι3 cls dd H3 st3 sim3 r3 => h' ι3 σ2 cls dd H3 st3 sim3 (sl2.mono sim2 st3) r3
      | ok d S3 =>
        cases d with
        | bl k =>
          refine ⟨k, rfl, fun ι3 H3 st3 sim3 => ?_⟩
          have sl3 := sl2.mono sim2 st3
          cases k with
          | false =>
            simp only [turnW, asB, ec] at hk
            cases hk
            simp only [Bool.false_eq_true, if_false]
            exact h' ι3 σ2 H3 st3 sim3 sl3
          | true =>
            simp only [turnW, asB, ec] at hk
            simp only [if_true]
            refine ⟨fun σ4 H4 => ∃ ι4 σw4 S4, Step X.K ι H ι4 H4 ∧ Sim X.K cad ι4 B H4 S4 ∧ Slo X.K cad ι4 B H4 σw4 σ4 ∧ iterW (turnW (fun σ S => asB (mc σ S)) mb) _ (σw4, S4) = some r, fun σ' H' p' => ⟨_, Nat.lt_succ_self _, p'⟩, ?_⟩
            refine hb B ι3 σw2 S3 σ2 H3 _ sim3 sl3 ?_
            have h3 := h'.after st3
            cases eb : mb σw2 S3 with
            | nx σ6 S6 =>
              simp only [eb] at hk
              exact fun ι6 σ7 H6 st6 sim6 sl6 => ⟨ι6, σ6, S6, (st2.trans st3).trans st6, sim6, sl6, hk⟩
            | cnt σ6 S6 =>
              simp only [eb] at hk
              exact fun ι6 σ7 H6 st6 sim6 sl6 => ⟨ι6, σ6, S6, (st2.trans st3).trans st6, sim6, sl6, hk⟩
            | brk σ6 S6 =>
              simp only [eb] at hk
              cases hk
              exact fun ι6 σ7 H6 st6 sim6 sl6 => h3 ι6 σ7 H6 st6 sim6 sl6
            | ret d σ6 S6 => simp only [eb] at hk; cases hk; exact h3
            | exc x σ6 S6 => simp only [eb] at hk; cases hk; exact h3
            | no => simp only [eb] at hk; cases hk; exact h.elim
        | _ => simp only [turnW, asB, ec] at hk; cases hk; exact h.elim
  · exact h.elim
end
end E1

set_option maxHeartbeats 1000000
/-! E1: own exceptions, raised and caught. -/
namespace E1
open PySem PySem.Spec PyProof.Rows L2

/-! ### what of the text an own exception class must have -/
def spX (K : Frag) (C : Addr) (fs : List Str) : Sp := fun vs H Q E => ∃ (a : Addr) (ws : List V), vs = .ref a :: ws ∧ ws.length = fs.length ∧ H a = some (exo a C none) ∧
  ∀ dx H', H dx = none → dx ≠ a → H' a = some (exo a C (some dx)) → H' dx = some (exd dx (fs.zip ws).reverse) → (∀ b, b ≠ a → b ≠ dx → H' b = H b) → Q .non H'
structure XAt (X : Cx) (cad : String → Option Addr) (c : String) (fs : List String) : Prop where
  ex : ∃ A, X.mg (Str.ofString c) = some (.ref A) ∧ PySem.W.keepIn X.K (.ref A) = true ∧ cad c = some A ∧ (ExcC X.K A ∧ ∀ n ∈ fs, NoAttr X.K A (Str.ofString n)) ∧ Raises X (.ref A) ∧
    ((fs = [] ∧ PySem.W.excIn X.K A PySem.HandSPX.veTail "ValueError.__new__" = true) ∨
      (fs ≠ [] ∧ OexC X.K A ∧ ∃ (fI : Addr) (fd : FuncData) (ps : List Str), PySem.W.findIn X.K (.ref A) "__init__" = some (some (.ref fI)) ∧ PySem.W.typeIn X.K (.ref fI) = some (.type "function") ∧
        FnOk X.prog X.w X.K X.mg X.base (L2.CX X.prog X.w) 1 fI fd ps (spX X.K A (fs.map Str.ofString)) ∧ Binds X.K fd ps []))

section
variable {X : Cx} {cad : String → Option Addr} {W : WX} {e : Expr} {es : List Expr} {ms : Slots → Store → E1.R (List D)} {p pos : Pos}
variable {ι : List Addr} {B : Addr → Prop} {H : Hp} {S : Store} {σw : Slots} {σ : L2.St} {D : Ends}
theorem zip_fst {α β : Type} : ∀ {xs : List α} {ys : List β}, ys.length = xs.length → (xs.zip ys).map (·.1) = xs
  | [], _, _ => rfl
  | x :: xs, [], h => by simp at h
  | x :: xs, y :: ys, h => by simp only [List.zip_cons_cons, List.map_cons, List.cons.injEq, true_and]; exact zip_fst (by simpa using h)
theorem zip_snd {α β : Type} : ∀ {xs : List α} {ys : List β}, ys.length = xs.length → (xs.zip ys).map (·.2) = ys
  | [], [], _ => rfl
  | [], y :: ys, h => by simp at h
  | x :: xs, [], h => by simp at h
  | x :: xs, y :: ys, h => by simp only [List.zip_cons_cons, List.map_cons, List.cons.injEq, true_and]; exact zip_snd (by simpa using h)
theorem sndS_raise {C : E1.Env} {c : String} {p2 : Pos} (hns : ∀ y ∈ e :: es, notStar y = true) (hc : X.calm = true) (hr : Room 2 X.A) (tk : Takes X W) (hg : Gl X (Str.ofString c)) (hdb : (Str.ofString c == ("__debug__" : Str)) = false)
    (hx : XAt X cad c (C.fld c)) (ha : SndA X cad W (e :: es) ms) : SndS X cad W (.Raise (some (.Call (.Name (Str.ofString c) p) (e :: es) [] p2)) none pos) (fun σ S => (ms σ S).st σ fun vs S => raiseF C c vs σ S) := by
  intro B ι σw S σ H D sim sl h
  have hstar := star_ns (env := X.env) (es := es) (hns e (by simp))
  have hpl : (backTo p2 (starEach es X.env)).any (·.1) = false := star_plain fun x hx => hns x (by simp [hx])
  obtain ⟨A, m1, m2, m3, m4, m5, m6⟩ := hx.ex
  rcases m6 with ⟨f0, q⟩ | ⟨f0, T, fI, fd, ps, i1, i2, F1, hb⟩
  · refine sSt.of (ps_raise (pos := pos) hc tk (pmk_ownA PySem.F.excBase_ValueError q m1 m2 m5 hg (pa_sem (es := e :: es)) hdb hstar hpl)) ?_
    refine ha B ι σw S σ H _ sim sl ((h.st sim sl).imp (fun vs S1 q1 => ?_) fun x S1 q1 => q1)
    intro ι1 ws H1 s1 sim1 r1
    unfold raiseF at q1
    rw [if_pos f0] at q1
    by_cases hl : vs.length ≤ LINE
    · rw [if_pos hl] at q1
      refine ⟨by rw [← r1.length]; exact hl, ?_⟩
      exact q1 ι1 σ _ none H1 s1 sim1 (sl.mono sim s1) ⟨A, m3, rfl, ⟨m4.1, fun n hn => by cases hn⟩, .inl ⟨rfl, rfl, rfl⟩⟩
    · rw [if_neg hl] at q1; exact q1.elim
  · refine sSt.of (ps_raise (pos := pos) hc tk (pmk_oex T i1 i2 F1 hr hb .nil passL hg m1 (pa_sem (es := e :: es)) hdb hstar hpl)) ?_
    refine ha B ι σw S σ H _ sim sl ((h.st sim sl).imp (fun vs S1 q1 => ?_) fun x S1 q1 => q1)
    intro ι1 ws H1 s1 sim1 r1
    unfold raiseF at q1
    rw [if_neg f0] at q1
    by_cases hl : vs.length = (C.fld c).length ∧ vs.length ≤ 1000
    · rw [if_pos hl] at q1
      refine ⟨by rw [← r1.length]; exact hl.2, fun a ha' => ?_⟩
      rw [List.append_nil]
      have hlen : ws.length = ((C.fld c).map Str.ofString).length := by rw [← r1.length, List.length_map]; exact hl.1
      refine ⟨a, ws, rfl, hlen, upd_same, fun dx H' h1 h2 h3 h4 h5 => ⟨rfl, dx, _, h3, h4, ?_, ?_⟩⟩
      · rw [upd_ne h2] at h1; exact h1
      · have hd : H1 dx = none := by rw [upd_ne h2] at h1; exact h1
        have eH : upd (L2.del H' a) dx (.xd (((C.fld c).map Str.ofString).zip ws).reverse) = upd H1 dx (.xd (((C.fld c).map Str.ofString).zip ws).reverse) := by
          funext b
          by_cases e1 : b = dx
          · subst e1; rw [upd_same, upd_same]
          · rw [upd_ne e1, upd_ne e1]
            by_cases e2 : b = a
            · subst e2; rw [del_same]; exact ha'.symm
            · rw [del_ne e2, h5 b e2 e1, upd_ne e2]
        rw [eH]
        have st : Step X.K ι1 H1 ι1 (upd H1 dx (.xd (((C.fld c).map Str.ofString).zip ws).reverse)) := .laid hd
        have sim2 := sim1.laid (o := .xd (((C.fld c).map Str.ofString).zip ws).reverse) hd trivial
        refine q1 ι1 σ _ _ _ (s1.trans st) sim2 ((sl.mono sim s1).mono sim1 st) ⟨A, m3, rfl, ⟨m4.1, fun n hn => m4.2 n (by simpa using hn)⟩, .inr ⟨dx, _, rfl, upd_same, ?_, ?_⟩⟩
        · rw [List.map_reverse, zip_fst hlen, ← List.map_reverse]
        · rw [List.map_reverse, zip_snd hlen]
          exact (r1.mono sim1 st fun _ q => q).rev
    · rw [if_neg hl] at q1; exact q1.elim
end

/-! ### the def of such a class's __init__ -/
def xAsg (g : Gc) : Nat → List String → List Stmt → Bool
  | _, [], [] => true
  | i, f :: fs, .Assign [.Attribute (.Name s _) n _] (.Name v _) _ :: r => okName g 0 s && strEq n f && okName g i v && xAsg g (i + 1) fs r
  | _, _, _ => false
def xBody (g : Gc) (P : String) (fs : List String) : List Stmt → Bool
  | .Expr (.Call (.Attribute (.Name p _) n apos) [.Name s _, .Constant (.str m) _ _] [] pos) _ :: r => strEq p P && okGlob g p && strEq n "__init__" && (apos.endLine == pos.line) && okName g 0 s && PyData.strOk m && !fs.isEmpty && xAsg g 1 fs r
  | _ => false
structure ParC (K : Frag) (P : Addr) : Prop where
  ga : PySem.W.specialIn K (.ref P) "__getattribute__" = some (some (.builtin "type.__getattribute__"))
  rd : PySem.W.readsIn K P (.type "type") = true
  fc : PySem.W.findCls K (.ref P) (.type "type") "__init__" = some (.val (.builtin "ValueError.__init__"))
section
variable {X : Cx} {e e1 e2 : Expr} {es : List Expr} {p pos : Pos} {te : TE} {ta : TA}
theorem pe_xinit {x : Str} {P : Addr} {p1 apos : Pos} (hg : Gl X x) (hm : X.mg x = some (.ref P)) (hdb : (x == ("__debug__" : Str)) = false) (T : ParC X.K P) (hline : (apos.endLine == pos.line) = true) (hns : ∀ y ∈ e :: es, notStar y = true) (hl : (e :: es).length < 30)
    (ha : PA X (e :: es) ta) : PE X (.Call (.Attribute (.Name x p1) "__init__" apos) (e :: es) [] pos) (tVeI X.K ta) := by
  refine ⟨fun pins s σ H Q I h => ?_⟩
  rw [arm_eval_Call, base_of (o := .Name x p1) rfl]
  refine wpAny_bind (ld_glob I hg hm ?_ hdb)
  refine wpAny_bind (wpAny_standAt ?_)
  have hform := few_of (n := 0) (pos := pos) (env := X.env) hns hl
  have hpos : methodCallPos true (.Name x p1) X.env apos pos = pure pos := by unfold methodCallPos; simp [hline]
  unfold methodCall
  rw [hform]
  refine wpAny_bind (wpAny_holding (PySem.W.method_cls I.kIn T.ga (PySem.W.cls_value I.kIn T.rd T.fc rfl ?_)))
  refine wpAny_bind (wpAny_of_eq hpos ?_)
  refine PyProof.Rows.callWith_method1 (thn (ha.run pos pins _ σ H _ (I.tok _) h) fun us s1 ⟨vs, H1, I1, r1, a, C, ws, ev, hl, T, ea, q⟩ => ?_) (star_ns (hns e (by simp))) (star_plain fun x hx => hns x (by simp [hx]))
  subst ev
  cases r1 with
  | @cons _ u0 _ ur ra rw' =>
    obtain rfl : u0 = Value.ref a := ra
    have hlen : ur.length ≤ sizeLine := by
      rw [← Paired.length rw', sizeLine_eq]
      omega
    exact oinit_ok T I1 ea hlen fun s' J => ⟨.non, H1, J, rfl, q⟩
theorem xAsg_run {g : Gc} {C a : Addr} (vis : ∀ {i : Nat} {x : Str}, okName g i x = true → X.N[i]? = some x ∧ Vis X.env.scope x ∧ (x == ("__debug__" : Str)) = false ∧ (x == ("__classdict__" : Str)) = false)
    (T : OexC X.K C) {dx : Addr} {σ : L2.St} {D : Ends} : ∀ (fs : List String) (ws : List V) (i : Nat) (st : List Stmt) (acc : List (Str × V)) (H : Hp), xAsg g i fs st = true → ws.length = fs.length → acc.length + fs.length ≤ 900 → (∀ n ∈ fs, NoAttr X.K C (Str.ofString n)) →
      σ[0]? = some (some (.ref a)) → (∀ j v, ws[j]? = some v → σ[i + j]? = some (some v)) → dx ≠ a → H a = some (exo a C (some dx)) → H dx = some (exd dx acc) →
      (∀ H', H' a = some (exo a C (some dx)) → H' dx = some (exd dx (((fs.map Str.ofString).zip ws).reverse ++ acc)) → (∀ b, b ≠ a → b ≠ dx → H' b = H b) → D.nx σ H') → sSts X st D σ H
  | [], ws, i, [], acc, H, h, hl, hn, hno, h0, hv, hd, ha, hx, q => sSts.of pss_nil (q H ha (by simpa using hx) fun _ _ _ => rfl)
  | [], ws, i, _ :: _, acc, H, h, hl, hn, hno, h0, hv, hd, ha, hx, q => by simp [xAsg] at h
  | f :: fs, [], i, st, acc, H, h, hl, hn, hno, h0, hv, hd, ha, hx, q => by simp at hl
  | f :: fs, w :: ws, i, st, acc, H, h, hl, hn, hno, h0, hv, hd, ha, hx, q => by
    unfold xAsg at h
    split at h
    · rename_i e1 e2; first | cases e2 | (cases e1; rename_i e2; cases e2)
    · rename_i i' f' fs' s sp n ap v vp pos r e1
      cases e1
      simp only [Bool.and_eq_true] at h
      obtain ⟨⟨⟨h1, h2⟩, h3⟩, h4⟩ := h
      obtain ⟨s1, s2, s3, s4⟩ := vis h1
      obtain ⟨v1, v2, v3, v4⟩ := vis h3
      obtain rfl : n = Str.ofString f := eq_of_beq h2
      refine sSts.of (pss_cons (ps_ost (pe_var s1 s2 s3 s4) (pe_var v1 v2 v3 v4)) (pss_sem (st := r))) ?_
      refine ⟨w, hv 0 w rfl, .ref a, h0, a, C, rfl, T, hno f (by simp), .inr ⟨dx, acc, ha, hx, by simp at hn; omega, ?_⟩⟩
      refine xAsg_run vis T fs ws _ r ((Str.ofString f, w) :: acc) _ h4 (by simpa using hl) (by simp at hn ⊢; omega) (fun n hn => hno n (by simp [hn])) h0 (fun j v e => ?_) hd (by rw [upd_ne (Ne.symm hd)]; exact ha) upd_same fun H' q1 q2 q3 => ?_
      · have := hv (j + 1) v (by simpa using e)
        rwa [← Nat.add_assoc, Nat.add_right_comm] at this
      · refine q H' q1 ?_ fun b b1 b2 => ?_
        · rw [q2]
          simp
        · rw [q3 b b1 b2, upd_ne b2]
    · cases h
end
structure XDef where
  cls : String
  par : String
  fs : List String
  dd : He.DefD
def XDef.N (x : XDef) : List String := "self" :: x.fs
def okX (x : XDef) : Bool :=
  C8.scC (x.N.map Str.ofString) (x.N.map Str.ofString) x.dd.scope && x.dd.dfl.isEmpty && x.dd.kwd.isEmpty && parOk' (x.N.map Str.ofString) x.dd.params && decide (x.fs.length ≤ 800) &&
    xBody ⟨x.N, x.dd.scope, none, true⟩ x.par x.fs x.dd.body
where
  parOk' (ps : List Str) (p : Arguments) : Bool := p.posonlyargs.isEmpty && decide (p.args.map (·.arg) = ps) && p.vararg.isNone && p.kwonlyargs.isEmpty && p.kwarg.isNone

/-! ### try: body, except C: suite; except C as n: suite -/
section
variable {X : Cx} {pins : List (Addr × Obj)} {σ : L2.St} {H : Hp} {s : Shared}
theorem inv_track {a : Addr} {o : HO} (I : Inv X pins σ H s) (ha : H a = none) (h0 : X.s_0.heap.get? a = none) (nL : a ≠ X.env.locals) (nC : ∀ x c, X.env.cells.lookup x = some c → a ≠ c) (hp : ∀ p ∈ X.pn ++ pins, a ≠ p.1) (ok : ObjOk X.prog X.w (upd H a o) s.heap a o) : Inv X pins σ (upd H a o) s := by
  have q : ∀ {b u}, H b = some u → (upd H a o) b = some u := fun {b u} e => by
    rw [upd_ne (fun z => by rw [z, ha] at e; cases e)]; exact e
  have qn : ∀ {b}, b ≠ a → H b = none → (upd H a o) b = none := fun {b} n e => by rw [upd_ne n]; exact e
  refine ⟨I.ok, I.os, I.bare, ⟨I.base.keep, I.base.slot, fun b u e n hx => ?_, I.base.there, fun b xs e => q (I.base.tups b xs e), fun b u v e => q (I.base.frzs b u v e), fun b ps e => let ⟨m, z⟩ := I.base.tbls b ps e; ⟨m, q z⟩⟩, I.loc, I.cell, qn (Ne.symm nL) I.free, fun x c e => qn (Ne.symm (nC x c e)) (I.freeC x c e), fun p h => ?_, fun b u e => ?_, I.len⟩
  · exact qn (fun z => by rw [z, h0] at e; cases e) (I.base.free b u e n hx)
  · obtain ⟨e, n, ne, nf, d⟩ := I.pin p h
    exact ⟨e, qn (Ne.symm (hp p h)) n, ne, nf, d⟩
  · by_cases hb : b = a
    · subst hb
      rw [upd_same] at e; cases e
      exact ok
    · rw [upd_ne hb] at e
      exact (I.hok b u e).stay (fun c v _ e => e) (fun c e => q e) fun c xs e => q e
theorem exV_ok {P : Program} {w : World} {H : Hp} {h : Heap} {a : Addr} {cls : Value} {d : Option Addr} {oe : Obj} {vs : Array Value} (e : h.get? a = some oe) (z : Zc cls d oe) (hd : oe.data = .fields vs) : ObjOk P w H h a (ExV cls d a) :=
  ⟨⟨oe, vs, e, z, hd⟩, ⟨oe, e⟩, fun h1 h2 ⟨oe', vs', e', z', d'⟩ k => ⟨oe', vs', k _ e', z', d'⟩⟩
theorem Inv.unsuite0 {a : Addr} {pn' : List (Addr × Obj)} (I : Inv (X.suite a (X.pn ++ pins)) pn' σ H s) (ok : X.Ok) : Inv X pins σ H s :=
  ⟨ok, I.os, I.bare, I.base, I.loc, I.cell, I.free, I.freeC, fun p hp => I.pin p (List.mem_append_left _ hp), I.hok, I.len⟩
theorem Inv.suite0 (I : Inv X pins σ H s) (a : Addr) : Inv (X.suite a (X.pn ++ pins)) [] σ H s :=
  ⟨I.ok.suite _ _, I.os, I.bare, I.base, I.loc, I.cell, I.free, I.freeC, fun p hp => I.pin p (by rw [List.append_nil] at hp; exact hp), I.hok, I.len⟩
end
def wAsE (K : PySem.W.Frag) (c : Value) (i : Nat) (ts : Addr → TS) (Wout : WX) (D : Ends) : WX := fun cls d σ H =>
  ∃ b, PySem.W.exmOne K cls c = some b ∧ (b = true → ∀ a, H a = none → ts a { nx := fun σ' H' => D.nx (σ'.set i none) H', rt := D.rt, bk := fun σ' H' => D.bk (σ'.set i none) H', ct := fun σ' H' => D.ct (σ'.set i none) H' } (σ.set i (some (.ref a))) (upd H a (ExV cls d a))) ∧
    (b = false → Wout cls d σ H)
section
variable {X : Cx} {x n : Str} {c : Value} {i : Nat} {body suite : List Stmt} {b₀ : Stmt} {np pos pos' : Pos} {tb : WX → TS} {ts : Addr → TS} {Wout : WX}
theorem ps_try_asE (hs : X.stack = X.env :: X.outer) (hf : X.env.frame = some X.env.locals) (hex : X.ex = []) (hN : X.N.Nodup) (hi : X.N[i]? = some n) (hln : X.env.kindOf n = some .local) (hc : Names X x c) (tk : Takes X Wout)
    (hb : ∀ (W : WX) (pn : List (Addr × Obj)) (xe : Value → Shared → Prop), Takes (X.tr pn xe) W → PassesOwn (model X.prog X.w) X.A X.env xe → PSs (X.tr pn xe) body (tb W))
    (hsu : ∀ (a : Addr) (pn : List (Addr × Obj)), PSs (X.suite a pn) (b₀ :: suite) (ts a)) :
    PS X (.Try body [.ExceptHandler (some (.Name x np)) (some n) (b₀ :: suite) pos'] [] [] pos) (fun D σ H => tb (wAsE X.K c i ts Wout D) D σ H) := by
  refine ⟨fun pins s σ H D I h => ?_⟩
  have ok := I.ok
  have hfr : X.A.frames = some (X.env :: X.outer) := by rw [ok.frames, hs]
  have hloc : Loc X.env.scope n := .inl hln
  refine wpAny_Try_except ?_
  refine wpAny_mono ((hb (wAsE X.K c i ts Wout D) (X.pn ++ pins) (fun e s₁ => wpAny (model X.prog X.w) X.A (noteFrame e X.env) (fun _ s₂ => wpAny (model X.prog X.w) X.A (setFlight e none) (fun _ s₃ =>
    wpAny (model X.prog X.w) X.A (handleBy e X.env [.ExceptHandler (some (.Name x np)) (some n) (b₀ :: suite) pos']) (SP X pins D) X.xe s₃) X.xe s₂) X.xe s₁) (fun u s' xx => ?_) PassesOwn.looking).run [] s σ H D (I.toTry _) h) (fun f s1 hsp => ?_) (fun e s1 he => he)
  · -- the catch
    obtain ⟨a, B, sI, pins', σ', H', cls, d, rfl, J', nb, up, sky, na, os, ag, b, hb1, hyes, hno⟩ := xx
    have J : Inv X pins σ' H' sI := J'.ofTry ok
    have sky' : Sky B (X.env :: X.outer) a (Zc cls d) X.env.locals s'.heap := by rw [← hs]; exact sky
    have hB : B.get? a = none := by
      rcases sky with z | z | z
      · exact z.2.1
      · exact z.2.1
      · exact z.2.1
    show wpAny (model X.prog X.w) X.A (noteFrame (.ref a) X.env) _ _ _
    refine Sky.land Zc.steady hfr hf sky' fun h3 fl3 up3 => ?_
    have J3 : Inv X pins σ' H' { s' with heap := h3 } := J.landed nb fl3.1 (up.trans up3) os ag
    obtain ⟨oe3, vs3, he3, hz3, hd3⟩ := fl3.there
    have notFr : ∀ {h : Heap} {o : Obj} {vs : Array Value}, h.FunFrames B (X.env :: X.outer) → h.get? a = some o → o.data = .fields vs → a ∉ frs (X.env :: X.outer) := fun {h o vs} ff e dd hm => by
      obtain ⟨_, o', e', hnf⟩ := ff.mem hm
      rw [e] at e'; cases e'
      exact hnf _ dd
    have nfr := notFr fl3.2.2.1 he3 hd3
    have nL : a ≠ X.env.locals := fun z => nfr (List.mem_filterMap.mpr ⟨X.env, List.mem_cons_self, by rw [hf, z]⟩)
    have nsI : sI.heap.get? a = none := by
      cases e : sI.heap.get? a with
      | none => rfl
      | some o =>
        have := nb a o e (by rw [hs]; exact nfr)
        rw [hB] at this; cases this
    have n0 : X.s_0.heap.get? a = none := by
      cases e : X.s_0.heap.get? a with
      | none => rfl
      | some o =>
        obtain ⟨o', e'⟩ := J.base.there a o e (by rw [hex]; simp)
        rw [nsI] at e'; cases e'
    have nC : ∀ x c, X.env.cells.lookup x = some c → a ≠ c := fun x c e z => by
      obtain ⟨v, o, ho, _⟩ := J.cell x c e
      rw [← z, nsI] at ho; cases ho
    have nP : ∀ p ∈ X.pn ++ pins, a ≠ p.1 := fun p hp z => by
      obtain ⟨e, _⟩ := J.pin p hp
      rw [← z, nsI] at e; cases e
    have tr : ∀ {h4 : Heap} {oe : Obj} {vs : Array Value}, Inv X pins σ' H' { s' with heap := h4 } → h4.get? a = some oe → Zc cls d oe → oe.data = .fields vs → Inv X pins σ' (upd H' a (ExV cls d a)) { s' with heap := h4 } := fun J4 e z dd => inv_track J4 na n0 nL nC nP (exV_ok e z dd)
    have S3 := Inv.suite0 (tr J3 he3 hz3 hd3) a
    refine wpAny_handleBy_cons (codeAny_handlers_test ?_) (by intro q; cases q)
    have LT : PySem.W.Looks (model X.prog X.w) h3 (typeOf (.ref a)) cls := fun A Q E s k q => wpAny_typeOf_ref (k _ _ he3) (by rw [hz3.1]; exact q)
    have LM := PySem.W.exm_one (M := model X.prog X.w) (J3.kIn) LT hb1
    have test : ∀ {Q : Value → Shared → Prop} {E : Value → Shared → Prop}, Q c { s' with heap := h3 } → wpAny (model X.prog X.w) (X.A.mark (some (.ref a))) (eval (.Name x np) X.env) Q E { s' with heap := h3 } := fun {Q E} q => by
      obtain ⟨hg, hdbg, hm | ⟨hm, hv, hnn⟩⟩ := hc
      · exact ld_glob (X := X.suite a (X.pn ++ pins)) S3 hg hm q hdbg
      · exact ld_blt (X := X.suite a (X.pn ++ pins)) S3 hg hm hv q hnn hdbg
    refine test (LM.here ?_)
    cases b with
    | true =>
      refine codeAny_handlers_suite_as ?_
      refine HandSPX.lands_againZ fl3 fun h4 fl4 up4 => ?_
      have J4 : Inv X pins σ' H' { s' with heap := h4 } := J.landed nb fl4.1 ((up.trans up3).trans up4) os ag
      obtain ⟨oe4, vs4, he4, hz4, hd4⟩ := fl4.there
      have S4 := Inv.suite0 (tr J4 he4 hz4 hd4) a
      refine store_ok (X := X.suite a (X.pn ++ pins)) (v := .ref a) S4 hN hi hloc rfl (fun s5 S5 => ?_) (.inr hln)
      refine wpAny_mono ((hsu a (X.pn ++ pins)).run [] s5 _ _ _ S5 (hyes rfl a na)) (fun f s6 hsp => ?_) (fun _ _ z => False.elim z)
      have end_ : ∀ {σ6 : L2.St} {H6 : Hp} {Q : Shared → Prop}, Inv (X.suite a (X.pn ++ pins)) [] σ6 H6 s6 → (∀ s7, Inv X pins (σ6.set i none) H6 s7 → Q s7) →
          wpAny (model X.prog X.w) X.A (do bindName X.env n .none; unbindBehindTheSuite X.env n pos') (fun _ s7 => Q s7) X.xe s6 := fun {σ6 H6 Q} S6 hq => gone_ok (Inv.unsuite0 S6 ok) hN hi hln hq
      cases f with
      | next =>
        obtain ⟨σ6, H6, S6, q6⟩ := hsp
        exact end_ S6 fun s7 J7 => ⟨_, _, J7, q6⟩
      | brk =>
        obtain ⟨σ6, H6, S6, q6⟩ := hsp
        exact end_ S6 fun s7 J7 => ⟨_, _, J7, q6⟩
      | cont =>
        obtain ⟨σ6, H6, S6, q6⟩ := hsp
        exact end_ S6 fun s7 J7 => ⟨_, _, J7, q6⟩
      | ret u =>
        obtain ⟨v6, σ6, H6, S6, r6, q6⟩ := hsp
        exact end_ S6 fun s7 J7 => ⟨_, _, _, J7, r6, q6⟩
    | false =>
      show wpAny _ X.A (handleBy (.ref a) X.env []) _ _ _
      refine wpAny_handleBy_nil ?_
      obtain ⟨k1, k2, k3, oe, vs, T, oT, ts', he, hz, hd, h1, hr⟩ := id fl3
      unfold PySem.passOn
      refine wpAny_bind (wpAny_field he hd h1 ?_)
      rw [if_neg (show ¬ ((Value.ref T == Value.none) = true) from by simp)]
      have fin : wpAny (model X.prog X.w) X.A (setFlight (.ref a) X.env.frame) (fun _ s4 => wpAny (model X.prog X.w) X.A (throw (.ref a) : Sem Flow) (SP X pins D) X.xe s4) X.xe { s' with heap := h3 } := by
        rw [hf]
        refine HandSPX.setFlight_upZ fl3 fun h4 hh4 up4 => wpAny_throw (tk _ _ ?_)
        exact ⟨a, B, sI, pins, σ', H', cls, d, rfl, J, nb, (up.trans up3).trans up4, .inr (.inr (by rw [hs]; exact hh4)), na, os, ag, hno rfl⟩
      first
        | exact wpAny_bind (wpAny_pure (wpAny_bind fin))
        | exact wpAny_bind fin
  · cases f with
    | next =>
      obtain ⟨σ', H', J', q⟩ := hsp
      exact wpAny_execs_nil ⟨σ', H', J'.ofTry ok, q⟩
    | brk =>
      obtain ⟨σ', H', J', q⟩ := hsp
      exact ⟨σ', H', J'.ofTry ok, q⟩
    | cont =>
      obtain ⟨σ', H', J', q⟩ := hsp
      exact ⟨σ', H', J'.ofTry ok, q⟩
    | ret u =>
      obtain ⟨v, σ', H', J', r, q⟩ := hsp
      exact ⟨v, σ', H', J'.ofTry ok, r, q⟩
end
end E1

set_option maxHeartbeats 1000000
/-! E1: the induction over statements. -/
namespace E1
open PySem PySem.Spec PyProof.Rows L2
theorem swNone_ok {g : Gc} {tg e : Expr} {env : PySem.Env} (hk : env.scope.kind = .function) (hs : env.scope = g.sc) (h : swNone g tg e = true) : swappedStores [tg] e env = pure none := by
  have hb : (env.blockKind != .function) = false := by unfold Env.blockKind; rw [hk]; rfl
  have ki : ∀ id, env.kindOf id = g.sc.names.lookup id := fun id => by rw [← hs]; rfl
  cases tg with
  | Tuple ts k pos =>
    cases e with
    | Tuple vs k2 pos2 =>
      have hn : (ts.filterMap fun e => match e with | .Name id pos => if env.kindOf id == some .local && pos.line == ((ts.head?.map (·.pos.line)).getD 0) then some id else none | _ => none) = namesOf g ((ts.head?.map (·.pos.line)).getD 0) ts := by
        unfold namesOf
        simp only [ki]
        all_goals rfl
      simp only [swNone, Bool.or_eq_true] at h
      unfold swappedStores
      dsimp only
      generalize hN : List.filterMap _ ts = N'
      have hn' : N' = namesOf g ((ts.head?.map (·.pos.line)).getD 0) ts := by rw [← hN]; exact hn
      rw [hn', hb]
      rcases h with (h | h) | h
      · have h' : (!(ts.length == 2 || ts.length == 3) || vs.length != ts.length || false) = true := by rw [Bool.or_false, Bool.or_eq_true]; exact h
        rw [if_pos h']
      · split
        · rfl
        · split
          · rfl
          · rw [h]; rfl
      · split
        · rfl
        · split
          · rfl
          · split
            · rfl
            · first | rfl | (rw [h]; rfl)
    | _ => rfl
  | List ts pos => cases h
  | _ => rfl
theorem swPar_ok {g : Gc} {x y : Str} {px py pt pt2 : Pos} {k k2 : Nat} {a b : Expr} {env : PySem.Env} (hk : env.scope.kind = .function) (hs : env.scope = g.sc) (h : swPar g x y px py a b = true) :
    swappedStores [.Tuple [.Name x px, .Name y py] k pt] (.Tuple [a, b] k2 pt2) env = pure (some [x, y]) ∧ env.scope.names.lookup x = some .local ∧ env.scope.names.lookup y = some .local ∧ x ≠ y ∧ notStar a = true ∧ notStar b = true := by
  have hb : (env.blockKind != .function) = false := by unfold Env.blockKind; rw [hk]; rfl
  have ki : ∀ id, env.kindOf id = g.sc.names.lookup id := fun id => by rw [← hs]; rfl
  simp only [swPar, Bool.and_eq_true] at h
  obtain ⟨⟨⟨⟨⟨⟨⟨h1, h2⟩, h3⟩, h4⟩, h5⟩, h6⟩, h7⟩, h8⟩ := h
  refine ⟨?_, by rw [hs]; exact eq_of_beq h1, by rw [hs]; exact eq_of_beq h2, by simpa using h4, h5, h6⟩
  have ne : (x == y) = false := by simpa using h4
  have st : ([a, b].any fun | .Starred .. => true | _ => false) = false := by
    have z : ∀ e : Expr, notStar e = true → (match e with | .Starred .. => true | _ => false) = false := fun e he => by cases e <;> first | rfl | (simp [notStar] at he)
    simp only [List.any_cons, List.any_nil, Bool.or_false]
    rw [Bool.or_eq_false_iff]
    exact ⟨z a h5, z b h6⟩
  have hpl : (py.line == px.line) = true := by rw [beq_iff_eq] at h3 ⊢; exact h3.symm
  have hn : ([Expr.Name x px, Expr.Name y py].filterMap fun e => match e with | .Name id pos => if env.kindOf id == some .local && pos.line == px.line then some id else none | _ => none) = [x, y] := by
    have c1 : (env.kindOf x == some .local && px.line == px.line) = true := by rw [ki, h1]; simp
    have c2 : (env.kindOf y == some .local && py.line == px.line) = true := by rw [ki, h2, hpl]; rfl
    rw [List.filterMap_cons_some (b := x) (by dsimp only; rw [if_pos c1]), List.filterMap_cons_some (b := y) (by dsimp only; rw [if_pos c2])]
    rfl
  unfold swappedStores
  dsimp only
  generalize hN : List.filterMap _ [Expr.Name x px, Expr.Name y py] = N'
  generalize hS : List.any [a, b] _ = A'
  have hn' : N' = [x, y] := by rw [← hN]; exact hn
  have hs' : A' = false := by rw [← hS]; exact st
  rw [hn', hs']
  rw [hb]
  have ed : [x, y].eraseDups.length = 2 := by
    have : (y == x) = false := by simpa using fun z : y = x => (by simpa using ne : ¬ x = y) z.symm
    simp [List.eraseDups_cons, this]
  have f1 : [a, b].all (foldedForSure 8) = false := by rw [Bool.not_eq_true'] at h7; exact h7
  have f2 : [a, b].all (constantsAlone 8) = false := by rw [Bool.not_eq_true'] at h8; exact h8
  rw [ed, f1, f2]
  rfl
theorem swSole_ok {g : Gc} {tg e : Expr} {env : PySem.Env} {l : Nat} (hk : env.scope.kind = .function) (hs : env.scope = g.sc) (hsd : notSD e = true) (h : swLC g tg e = false) : swapsWithSole [tg] e l env = pure false := by
  have hb : env.blockKind = .function := by unfold Env.blockKind; rw [hk]; rfl
  have ki : ∀ id, env.kindOf id = g.sc.names.lookup id := fun id => by rw [← hs]; rfl
  show swapsWith e (some tg) l env = pure false
  cases e with
  | ListComp x gs scope pos =>
    cases tg with
    | Name y py =>
      show (pure (env.blockKind == .function && env.kindOf y == some .local && py.line == pos.line && !(scope.names.any fun (n, k) => n == y && (k == .local || k == .cell))) : Sem Bool) = pure false
      rw [hb, ki]
      have h' : ((ScopeKind.function == ScopeKind.function) && g.sc.names.lookup y == some .local && py.line == pos.line && !(scope.names.any fun (n, k) => n == y && (k == .local || k == .cell))) = false := h
      rw [h']
    | _ => rfl
  | SetComp _ _ _ _ => cases hsd
  | DictComp _ _ _ _ _ => cases hsd
  | _ => rfl

structure WdT (t : Tab) (P : Prog) (cad : String → Option Addr) (n : Nat) (g : Gc) (X : Cx) (W : WX) : Prop where
  w : Wd t P cad n g X W
  po : PassesOwn (model X.prog X.w) X.A X.env X.xe
  kd : X.env.scope.kind = .function
  stk : X.stack = X.env :: X.outer
  fr : X.env.frame = some X.env.locals
  ex0 : X.ex = []
  room2 : g.calm = true → Room 2 X.A
  xs : ∀ c fs, t.xs.lookup c = some fs → P.fld c = fs ∧ XAt X cad c fs
  sub : ∀ c A c' fs, cad c = some A → ExcC X.K A → t.xs.lookup c' = some fs → ∃ A', cad c' = some A' ∧ PySem.W.exmOne X.K (.ref A) (.ref A') = some (P.sub c c')
theorem Slo.unset {K : Frag} {cad : String → Option Addr} {ι : List Addr} {B : Addr → Prop} {H : Hp} {σw : Slots} {σ : L2.St} (h : Slo K cad ι B H σw σ) (i : Nat) : Slo K cad ι B H (σw.set i none) (σ.set i none) := ⟨by simp [h.1], fun j d e => by
  by_cases hj : j = i
  · subst hj
    by_cases hl : j < σw.length
    · rw [List.getElem?_set_self hl] at e; cases e
    · rw [List.getElem?_eq_none (by simpa using hl)] at e; cases e
  · rw [List.getElem?_set_ne (Ne.symm hj)] at e ⊢
    exact h.2 j d e⟩
section
variable {X : Cx} {cad : String → Option Addr} {W : WX} {body suite : List Stmt} {b₀ : Stmt} {mb ms : Slots → Store → RS} {x n : Str} {i : Nat} {np pos pos' : Pos} {A : Addr}
def hdA (sb : String → Bool) (i : Nat) (ms : Slots → Store → RS) (x : Exn) (σ : Slots) (S : Store) : RS := if sb x.cls then (if i < σ.length then match ms (σ.set i (some (.exn x.cls x.ns x.vs))) S with
        | .nx σ S => .nx (σ.set i none) S
        | .ret d σ S => .ret d (σ.set i none) S
        | .brk σ S => .brk (σ.set i none) S
        | .cnt σ S => .cnt (σ.set i none) S
        | _ => .no
        else .no) else .exc x σ S
def hdO (sb : String → Bool) (ms : Slots → Store → RS) (x : Exn) (σ : Slots) (S : Store) : RS := if sb x.cls then (match ms σ S with
        | .nx σ S => .nx σ S
        | .ret d σ S => .ret d σ S
        | .brk σ S => .brk σ S
        | .cnt σ S => .cnt σ S
        | _ => .no) else .exc x σ S
def tryF (mb : Slots → Store → RS) (hd : Exn → Slots → Store → RS) (σ : Slots) (S : Store) : RS := match mb σ S with
  | .exc x σ S => hd x σ S
  | r => r
theorem sndS_tryA {sb : String → Bool} (hs : X.stack = X.env :: X.outer) (hf : X.env.frame = some X.env.locals) (hex : X.ex = []) (hN : X.N.Nodup) (hi : X.N[i]? = some n) (hln : X.env.kindOf n = some .local) (hc : Names X x (.ref A)) (tk : Takes X W)
    (hsb : ∀ c A', cad c = some A' → ExcC X.K A' → PySem.W.exmOne X.K (.ref A') (.ref A) = some (sb c))
    (hb : ∀ (W : WX) (pn : List (Addr × Obj)) (xe : Value → Shared → Prop), Takes (X.tr pn xe) W → PassesOwn (model X.prog X.w) X.A X.env xe → SndSs (X.tr pn xe) cad W body mb)
    (hsu : ∀ (a : Addr) (pn : List (Addr × Obj)), SndSs (X.suite a pn) cad Wno (b₀ :: suite) ms) :
    SndS X cad W (.Try body [.ExceptHandler (some (.Name x np)) (some n) (b₀ :: suite) pos'] [] [] pos) (tryF mb (hdA sb i ms)) := by
  intro B ι σw S σ H D sim sl h
  refine sSt.of (ps_try_asE (tb := fun W D σ H => ∀ (pn : List (Addr × Obj)) (xe : Value → Shared → Prop), Takes (X.tr pn xe) W → PassesOwn (model X.prog X.w) X.A X.env xe → sSts (X.tr pn xe) body D σ H)
    (ts := fun a D σ H => ∀ pn : List (Addr × Obj), sSts (X.suite a pn) (b₀ :: suite) D σ H) (pos := pos) (np := np) (pos' := pos') hs hf hex hN hi hln hc tk
    (fun W pn xe tk po => ⟨fun pins s σ H D I h => h pn xe tk po pins s I⟩) (fun a pn => ⟨fun pins s σ H D I h => h pn pins s I⟩)) ?_
  intro pn xe tk' po
  refine hb _ pn xe tk' po B ι σw S σ H D sim sl ?_
  unfold tryF at h
  cases e : mb σw S with
  | nx σ1 S1 => rw [e] at h; exact h
  | brk σ1 S1 => rw [e] at h; exact h
  | cnt σ1 S1 => rw [e] at h; exact h
  | ret d σ1 S1 => rw [e] at h; exact h
  | no => rw [e] at h; exact h
  | exc x1 σ1 S1 =>
    rw [e] at h
    dsimp only at h
    intro ι1 σ2 cls dd H1 s1 sim1 sl1 r1
    have h' := h
    obtain ⟨A', c1, rfl, hx, hfd⟩ := r1
    refine ⟨sb x1.cls, hsb _ _ c1 hx.1, fun hy a ha pn' => ?_, fun hy => ?_⟩
    · unfold hdA at h
      rw [if_pos hy] at h
      by_cases hl : i < σ1.length
      · rw [if_pos hl] at h
        have st : Step X.K ι1 H1 ι1 (upd H1 a (ExV (.ref A') dd a)) := .laid ha
        have sim2 := sim1.laid (o := ExV (.ref A') dd a) ha trivial
        have rel : VRel X.K cad ι1 B (upd H1 a (ExV (.ref A') dd a)) (.exn x1.cls x1.ns x1.vs) (.ref a) := by
          obtain ⟨xc, xn, xv⟩ := x1
          rcases hfd with ⟨f1, f2, f3⟩ | ⟨dx, fs, f1, f2, f3, f4⟩
          · simp only at f1 f2 f3
            subst f1; subst f2; subst f3
            exact .exn0 c1 upd_same hx.1
          · subst f1
            exact .exn1 c1 upd_same (by rw [upd_ne (fun z => by rw [z, ha] at f2; cases f2)]; exact f2) f3 hx (f4.mono sim1 st fun _ q => q)
        refine hsu a pn' B ι1 _ S1 _ _ _ sim2 (((sl1.mono sim1 st)).set rel hl) ?_
        have h1 := PostS.after h (s1.trans st)
        cases e2 : ms (σ1.set i (some (.exn x1.cls x1.ns x1.vs))) S1 with
        | nx σ3 S3 => rw [e2] at h1; exact fun ι3 σ4 H3 s3 sim3 sl3 => h1 ι3 _ H3 s3 sim3 (sl3.unset i)
        | brk σ3 S3 => rw [e2] at h1; exact fun ι3 σ4 H3 s3 sim3 sl3 => h1 ι3 _ H3 s3 sim3 (sl3.unset i)
        | cnt σ3 S3 => rw [e2] at h1; exact fun ι3 σ4 H3 s3 sim3 sl3 => h1 ι3 _ H3 s3 sim3 (sl3.unset i)
        | ret d σ3 S3 => rw [e2] at h1; exact h1
        | exc _ _ _ => rw [e2] at h1; exact h1.elim
        | no => rw [e2] at h1; exact h1.elim
      · rw [if_neg hl] at h; exact h.elim
    · unfold hdA at h
      rw [if_neg (by rw [hy]; simp)] at h
      exact h ι1 σ2 _ dd H1 s1 sim1 sl1 ⟨A', c1, rfl, hx, hfd⟩
theorem sndS_tryO {sb : String → Bool} (hs : X.stack = X.env :: X.outer) (hf : X.env.frame = some X.env.locals) (hc : Names X x (.ref A)) (tk : Takes X W)
    (hsb : ∀ c A', cad c = some A' → ExcC X.K A' → PySem.W.exmOne X.K (.ref A') (.ref A) = some (sb c))
    (hb : ∀ (W : WX) (pn : List (Addr × Obj)) (xe : Value → Shared → Prop), Takes (X.tr pn xe) W → PassesOwn (model X.prog X.w) X.A X.env xe → SndSs (X.tr pn xe) cad W body mb)
    (hsu : ∀ (a : Addr) (pn : List (Addr × Obj)), SndSs (X.suite a pn) cad Wno (b₀ :: suite) ms) :
    SndS X cad W (.Try body [.ExceptHandler (some (.Name x np)) none (b₀ :: suite) pos'] [] [] pos) (tryF mb (hdO sb ms)) := by
  intro B ι σw S σ H D sim sl h
  refine sSt.of (ps_try_only (tb := fun W D σ H => ∀ (pn : List (Addr × Obj)) (xe : Value → Shared → Prop), Takes (X.tr pn xe) W → PassesOwn (model X.prog X.w) X.A X.env xe → sSts (X.tr pn xe) body D σ H)
    (ts := fun a _ _ D σ H => ∀ pn : List (Addr × Obj), sSts (X.suite a pn) (b₀ :: suite) D σ H) (pos := pos) (np := np) (pos' := pos') hs hf hc tk
    (fun W pn xe tk po => ⟨fun pins s σ H D I h => h pn xe tk po pins s I⟩) (fun a oe cls d pn _ _ => ⟨fun pins s σ H D I h => h _ pins s I⟩)) ?_
  intro pn xe tk' po
  refine hb _ pn xe tk' po B ι σw S σ H D sim sl ?_
  unfold tryF at h
  cases e : mb σw S with
  | nx σ1 S1 => rw [e] at h; exact h
  | brk σ1 S1 => rw [e] at h; exact h
  | cnt σ1 S1 => rw [e] at h; exact h
  | ret d σ1 S1 => rw [e] at h; exact h
  | no => rw [e] at h; exact h
  | exc x1 σ1 S1 =>
    rw [e] at h
    dsimp only at h
    intro ι1 σ2 cls dd H1 s1 sim1 sl1 r1
    obtain ⟨A', c1, rfl, hx, hfd⟩ := r1
    refine ⟨sb x1.cls, hsb _ _ c1 hx.1, fun hy a ha pn' => ?_, fun hy => ?_⟩
    · unfold hdO at h
      rw [if_pos hy] at h
      refine hsu a pn' B ι1 _ S1 _ _ _ sim1 sl1 ?_
      have h1 := PostS.after h s1
      cases e2 : ms σ1 S1 with
      | nx σ3 S3 => rw [e2] at h1; exact h1
      | brk σ3 S3 => rw [e2] at h1; exact h1
      | cnt σ3 S3 => rw [e2] at h1; exact h1
      | ret d σ3 S3 => rw [e2] at h1; exact h1
      | exc _ _ _ => rw [e2] at h1; exact h1.elim
      | no => rw [e2] at h1; exact h1.elim
    · unfold hdO at h
      rw [if_neg (by rw [hy]; simp)] at h
      exact h ι1 σ2 _ dd H1 s1 sim1 sl1 ⟨A', c1, rfl, hx, hfd⟩
end
section
variable {t : Tab} {P : Prog} {cad : String → Option Addr} {n : Nat}
theorem okI_ns {g : Gc} {tg z : Expr} {it : It} (hi : okI t g tg it z = true) : notSet z = true := by
  cases it with
  | ex e => unfold okI at hi; simp only [Bool.and_eq_true] at hi; exact hi.2
  | items e => unfold okI at hi; cases hi
  | _ => unfold okI at hi; split at hi <;> first | rfl | cases hi
theorem sndS_lc {g : Gc} {X : Cx} {W : WX} {i : Nat} {e : Ex} {y x : Expr} {pos : Pos} (w : WdT t P cad n g X W) (ht : okT t g (.name i) y = true) (he : okE t g e x = true) (hl : swLC g y x = true) : SndS X cad W (.Assign [y] x pos) (ex (envOf P n) (.asg (.name i) e)) := by
  cases y with
  | Name nm py =>
    cases x with
    | ListComp elt gs scope p2 =>
      cases e with
      | comp box el tg it cond own =>
        unfold okE at he
        split at he
        · rename_i x0 y0 z ifs scope0 pos0 heq
          cases heq
          simp only [Bool.and_eq_true] at he
          obtain ⟨⟨⟨⟨⟨⟨hb, hi⟩, hns⟩, hc⟩, hg⟩, he⟩, hcd⟩ := he
          simp only [swLC, Bool.and_eq_true] at hl
          obtain ⟨⟨h1, h2⟩, h3⟩ := hl
          unfold okT at ht
          obtain ⟨s1, s2, s3⟩ := w.w.store ht
          have hy : X.env.scope.names.lookup nm = some .local := by rw [w.w.sc]; exact eq_of_beq h1
          have hown : (ownOf g own).map (·.2) = own := by unfold ownOf; rw [List.map_map]; exact List.map_id'' (fun _ => rfl) own
          intro B ι σw S σ H D sim sl h
          refine sSt.of (ps_comp (spos := pos) (ownX := ownOf g own) (w.w.calm hc) w.w.nd s1 hy (sw_true w.kd hy h2 (by simpa using h3)) (by rw [w.w.hN, w.w.sc]; exact blkOk_by hb) (okI_ns hi)) ?_
          rw [hown]
          have h' : PostS X.K cad ι B H W D (asgF (ev (envOf P n) (.comp box el tg it cond own)) (asg (envOf P n) (.name i)) σw S) := by rw [ex] at h; exact h
          unfold asgF at h'
          have h2 := h'.st sim sl
          rw [ev] at h2
          refine comp_red (box := box) (own := own) (ns := tgN tg) (fun j hj => by
            rw [List.all_eq_true] at hns
            simpa using hns j hj) (wI it w.w hi) (fun s H0 C cl fp => wG tg (w.w.blk scope s H0 C cl fp) hg) (fun s H0 C cl fp => wC cond (w.w.blk scope s H0 C cl fp) hcd) (fun s H0 C cl fp => (wE el (w.w.blk scope s H0 C cl fp) he).1) sim sl (h2.imp (fun d S1 q => ?_) fun x S1 q => q)
          intro ι1 v H1 st1 sim1 r1
          by_cases hlen : i < σw.length
          · simp only [asg, if_pos hlen] at q
            exact q ι1 _ H1 st1 sim1 ((sl.mono sim st1).set r1 hlen)
          · simp only [asg, if_neg hlen] at q; exact q.elim
        · cases he
      | frz a =>
        unfold okE at he
        rw [Bool.and_eq_true] at he
        cases he.2
      | _ => unfold okE at he; (first | cases he | (split at he <;> first | cases he | (rename_i hh; cases hh)))
    | _ => cases hl
  | _ => cases hl

theorem lenE_ne {g : Gc} {es : Exs} {xs : List Expr} (h : okEs t g es xs = true) (hl : 0 < lenE es) : xs ≠ [] := fun e => by
  have := (okEs_ns h).2
  rw [e] at this
  simp at this
  omega
theorem XAt.re {X X' : Cx} {cad : String → Option Addr} {c : String} {fs : List String} (h : XAt X cad c fs) (e1 : X'.mg = X.mg) (e2 : X'.K = X.K) (e3 : X'.prog = X.prog) (e4 : X'.w = X.w) (e5 : X'.base = X.base) : XAt X' cad c fs := by
  obtain ⟨A, m1, m2, m3, m4, m5, m6⟩ := h
  refine ⟨A, by rw [e1]; exact m1, by rw [e2]; exact m2, m3, by rw [e2]; exact m4, by unfold Raises at m5 ⊢; rw [e2]; exact m5, ?_⟩
  rw [e1, e2, e3, e4, e5]; exact m6
theorem WdS.re {X X' : Cx} {cad : String → Option Addr} (h : WdS t P cad n X) (e1 : X'.mg = X.mg) (e2 : X'.K = X.K) (e3 : X'.prog = X.prog) (e4 : X'.w = X.w) (e5 : X'.base = X.base) : WdS t P cad n X' where
  fns := fun f y q => let ⟨fa, h1, h2, h3⟩ := h.fns f y q; ⟨fa, by rw [e1]; exact h1, by rw [e2]; exact h2, ⟨by rw [e1, e2, e3, e4, e5]; exact h3.ok⟩⟩
  cls := fun c q => let ⟨A, fi, h1, h2, h3, h4, h5, h6⟩ := h.cls c q; ⟨A, fi, by rw [e1]; exact h1, by rw [e2]; exact h2, by rw [e2]; exact h3, by rw [e2]; exact h4, h5, ⟨by rw [e1, e2, e3, e4, e5]; exact h6.ok⟩⟩
  mts := fun c A m h1 h2 h3 => let ⟨g, h4, h5⟩ := h.mts c A m h1 h2 h3; ⟨g, by rw [e2]; exact h4, ⟨by rw [e1, e2, e3, e4, e5]; exact h5.ok⟩⟩
  bts := by rw [e1]; exact h.bts
  tys := fun s q => by
    have := h.tys s q
    unfold NameTy at this ⊢
    rw [e1]; exact this
  kinds := h.kinds
  insk := by rw [e2]; exact h.insk
  isa := by rw [e2]; exact h.isa
  fld := by rw [e2]; exact h.fld
theorem WdT.toTry {g : Gc} {X : Cx} {cad : String → Option Addr} {W W' : WX} (w : WdT t P cad n g X W) {pn : List (Addr × Obj)} {xe : Value → Shared → Prop} (tk : Takes (X.tr pn xe) W') (po : PassesOwn (model X.prog X.w) X.A X.env xe) : WdT t P cad n g (X.tr pn xe) W' :=
  ⟨⟨w.w.st.re rfl rfl rfl rfl rfl, w.w.hN, w.w.nd, w.w.sc, w.w.fn, w.w.calm, w.w.un, w.w.room, tk⟩, po, w.kd, w.stk, w.fr, w.ex0, w.room2, fun c fs h => ⟨(w.xs c fs h).1, (w.xs c fs h).2.re rfl rfl rfl rfl rfl⟩, w.sub⟩
theorem WdT.toSuite {g : Gc} {X : Cx} {cad : String → Option Addr} {W : WX} (w : WdT t P cad n g X W) (a : Addr) (pn : List (Addr × Obj)) : WdT t P cad n ⟨g.N, g.sc, g.fnc, false⟩ (X.suite a pn) Wno :=
  ⟨⟨w.w.st.re rfl rfl rfl rfl rfl, w.w.hN, w.w.nd, w.w.sc, w.w.fn, (fun z => by cases z), w.w.un, (fun z => by cases z), fun u s' ⟨a, B, sI, pins, σ, H, cls, d, e, I, nb, up, sky, na, os, ag, z⟩ => z.elim⟩, .never, w.kd, w.stk, w.fr, w.ex0, (fun z => by cases z), fun c fs h => ⟨(w.xs c fs h).1, (w.xs c fs h).2.re rfl rfl rfl rfl rfl⟩, w.sub⟩
mutual
theorem wS : ∀ (s : St) {g : Gc} {X : Cx} {W : WX} {x : Stmt}, WdT t P cad n g X W → okS t g s x = true → SndS X cad W x (ex (envOf P n) s)
  | .expr e, g, X, W, x, w, h => by
    unfold okS at h
    split at h
    · simp only [Bool.and_eq_true] at h
      have := sndS_expr (pos := by assumption) (by simpa using h.2) (wE e w.w h.1).1
      intro B ι σw S σ H D sim sl hh
      rw [ex] at hh
      exact this B ι σw S σ H D sim sl hh
    · cases h
  | .asg tg e, g, X, W, x, w, h => by
    unfold okS at h
    split at h
    · rename_i y x p
      simp only [Bool.and_eq_true] at h
      obtain ⟨⟨⟨⟨h1, h2⟩, h3⟩, h4⟩, h5⟩ := h
      by_cases hl : swLC g y x = true
      · cases tg with
        | name i => exact sndS_lc w h1 h2 hl
        | att a f =>
          unfold okT at h1
          split at h1
          · cases hl
          · cases h1
        | sub a f =>
          unfold okT at h1
          split at h1
          · cases hl
          · cases h1
        | tup ts =>
          unfold okT at h1
          split at h1
          · cases hl
          · cases h1
      · have := sndS_asg (pos := p) (fun l => swSole_ok w.kd w.w.sc h4 (by simpa using hl)) (swNone_ok w.kd w.w.sc h3) h5 (wE e w.w h2).1 (wG tg w.w h1)
        intro B ι σw S σ H D sim sl hh
        rw [ex] at hh
        exact this B ι σw S σ H D sim sl hh
    · cases h
  | .par i j a b, g, X, W, x, w, h => by
    unfold okS at h
    split at h
    · rename_i x px y py k pt u v k2 pt2 p
      simp only [Bool.and_eq_true] at h
      obtain ⟨⟨⟨⟨⟨hc, h1⟩, h2⟩, h3⟩, h4⟩, h5⟩ := h
      obtain ⟨s1, s2, s3⟩ := w.w.store h1
      obtain ⟨r1, r2, r3⟩ := w.w.store h2
      obtain ⟨q1, q2, q3, q4, q5, q6⟩ := swPar_ok (k := k) (k2 := k2) (pt := pt) (pt2 := pt2) w.kd w.w.sc h5
      have hij : i ≠ j := fun e => by
        subst e
        rw [s1] at r1
        exact q4 (Option.some.inj r1)
      have := sndS_par (pos := p) (w.w.calm hc) w.w.nd s1 r1 hij q2 q3 q5 q6 q1 (wE a w.w h3).1 (wE b w.w h4).1
      intro B ι σw S σ H D sim sl hh
      rw [ex] at hh
      exact this B ι σw S σ H D sim sl hh
    · cases h
  | .aug i op e, g, X, W, x, w, h => by
    unfold okS at h
    split at h
    · rename_i x px o v p
      simp only [Bool.and_eq_true] at h
      obtain ⟨⟨⟨h1, h2⟩, h3⟩, h4⟩ := h
      obtain ⟨s1, s2, s3⟩ := w.w.store h1
      have hop : (op = .add ∧ o = .Add) ∨ (op = .sub ∧ o = .Sub) := by
        split at h4
        · exact .inl ⟨rfl, rfl⟩
        · exact .inr ⟨rfl, rfl⟩
        · cases h4
      have := sndS_aug (pos := p) (p := px) hop w.w.nd s1 s2 s3 (wE e w.w h3).1
      intro B ι σw S σ H D sim sl hh
      rw [ex] at hh
      exact this B ι σw S σ H D sim sl hh
    · cases h
  | .ite c a b, g, X, W, x, w, h => by
    unfold okS at h
    split at h
    · simp only [Bool.and_eq_true] at h
      have := sndS_if (pos := by assumption) (wE c w.w h.1.1).2.1 (wSs a w h.1.2) (wSs b w h.2)
      intro B ι σw S σ H D sim sl hh
      rw [ex] at hh
      exact this B ι σw S σ H D sim sl hh
    · cases h
  | .for_ tg it body, g, X, W, x, w, h => by
    unfold okS at h
    split at h
    · simp only [Bool.and_eq_true] at h
      obtain ⟨⟨⟨h1, h2⟩, h3⟩, h4⟩ := h
      have := sndS_for (pos := by assumption) w.po (w.w.calm h1) (okI_ns h2) (wI it w.w h2) (wG tg w.w h3) (wSs body w h4)
      intro B ι σw S σ H D sim sl hh
      rw [ex] at hh
      exact this B ι σw S σ H D sim sl hh
    · cases h
  | .while_ c body, g, X, W, x, w, h => by
    unfold okS at h
    split at h
    · simp only [Bool.and_eq_true] at h
      have := sndS_while (pos := by assumption) w.po (wE c w.w h.1).2.1 (wSs body w h.2)
      intro B ι σw S σ H D sim sl hh
      rw [ex] at hh
      exact this B ι σw S σ H D sim sl hh
    · cases h
  | .ret e, g, X, W, x, w, h => by
    unfold okS at h
    split at h
    · have := sndS_ret (pos := by assumption) (wE e w.w h).1
      intro B ι σw S σ H D sim sl hh
      rw [ex] at hh
      exact this B ι σw S σ H D sim sl hh
    · cases h
  | .retN, g, X, W, x, w, h => by
    unfold okS at h
    split at h
    · exact sndS_retN
    · cases h
  | .pass, g, X, W, x, w, h => by
    unfold okS at h
    split at h
    · exact sndS_pass
    · cases h
  | .cont, g, X, W, x, w, h => by
    unfold okS at h
    split at h
    · exact sndS_cont
    · cases h
  | .brk, g, X, W, x, w, h => by
    unfold okS at h
    split at h
    · exact sndS_brk
    · cases h
  | .raise c es, g, X, W, x, w, h => by
    unfold okS at h
    split at h
    · rename_i x p xs p2 pos
      simp only [Bool.and_eq_true] at h
      obtain ⟨⟨⟨⟨⟨h1, h2⟩, h3⟩, h4⟩, h5⟩, h6⟩ := h
      obtain ⟨g1, g2⟩ := w.w.gl h2
      obtain rfl := strEq_eq h3
      obtain ⟨fs, hfs⟩ := Option.isSome_iff_exists.mp h4
      obtain ⟨f1, f2⟩ := w.xs c fs hfs
      have hne := lenE_ne h5 (of_decide_eq_true h6)
      cases xs with
      | nil => exact absurd rfl hne
      | cons e0 xs =>
        have hx : XAt X cad c ((envOf P n).fld c) := by show XAt X cad c (P.fld c); rw [f1]; exact f2
        have := sndS_raise (pos := pos) (p := p) (p2 := p2) (okEs_ns h5).1 (w.w.calm h1) (w.room2 h1) w.w.tk g1 g2 hx (wA es w.w h5)
        intro B ι σw S σ H D sim sl hh
        rw [ex] at hh
        exact this B ι σw S σ H D sim sl hh
    · cases h
  | .try_ body (.cons [c] name suite .nil), g, X, W, x, w, h => by
    unfold okS at h
    split at h
    · rename_i b x p nm s0 ss p' pos
      simp only [Bool.and_eq_true] at h
      obtain ⟨⟨h1, h2⟩, ⟨⟨⟨h3, h4⟩, h5⟩, h6⟩, h7⟩ := h
      obtain ⟨g1, g2⟩ := w.w.gl h4
      obtain rfl := strEq_eq h3
      obtain ⟨fs, hfs⟩ := Option.isSome_iff_exists.mp h5
      obtain ⟨f1, ⟨A, m1, m2, m3, _⟩⟩ := w.xs c fs hfs
      have hsb : ∀ c' A', cad c' = some A' → ExcC X.K A' → PySem.W.exmOne X.K (.ref A') (.ref A) = some ((envOf P n).sub c' c) := fun c' A' e1 e2 => by
        obtain ⟨A2, e3, e4⟩ := w.sub c' A' c fs e1 e2 hfs
        rw [m3] at e3; cases e3
        exact e4
      have hc : Names X (Str.ofString c) (.ref A) := ⟨g1, g2, .inl m1⟩
      have hbody : ∀ (W' : WX) (pn : List (Addr × Obj)) (xe : Value → Shared → Prop), Takes (X.tr pn xe) W' → PassesOwn (model X.prog X.w) X.A X.env xe → SndSs (X.tr pn xe) cad W' b (exs (envOf P n) body) := fun W' pn xe tk po =>
        wSs body (w.toTry tk po) h2
      have hsuite : ∀ (a : Addr) (pn : List (Addr × Obj)), SndSs (X.suite a pn) cad Wno (s0 :: ss) (exs (envOf P n) suite) := fun a pn => wSs suite (w.toSuite a pn) h6
      have ehh : ∀ (hd : Exn → Slots → Store → RS), (∀ x σ S, exh (envOf P n) (.cons [c] name suite .nil) x σ S = hd x σ S) → SndS X cad W (.Try b [.ExceptHandler (some (.Name (Str.ofString c) p)) nm (s0 :: ss) p'] [] [] pos) (tryF (exs (envOf P n) body) hd) →
          SndS X cad W (.Try b [.ExceptHandler (some (.Name (Str.ofString c) p)) nm (s0 :: ss) p'] [] [] pos) (ex (envOf P n) (.try_ body (.cons [c] name suite .nil))) := fun hd eh this B ι σw S σ H D sim sl hh => by
        refine this B ι σw S σ H D sim sl ?_
        rw [ex] at hh
        unfold tryF
        cases e : exs (envOf P n) body σw S with
        | exc x1 σ1 S1 => rw [e] at hh; dsimp only at hh ⊢; rw [← eh]; exact hh
        | nx _ _ => rw [e] at hh; exact hh
        | brk _ _ => rw [e] at hh; exact hh
        | cnt _ _ => rw [e] at hh; exact hh
        | ret _ _ _ => rw [e] at hh; exact hh
        | no => rw [e] at hh; exact hh
      cases name with
      | none =>
        cases nm with
        | some _ => cases h7
        | none =>
          refine ehh (hdO (fun k => (envOf P n).sub k c) (exs (envOf P n) suite)) (fun x σ S => ?_) (sndS_tryO w.stk w.fr hc w.w.tk hsb hbody hsuite)
          simp only [exh, hdO, List.any_cons, List.any_nil, Bool.or_false]
          all_goals rfl
      | some i =>
        cases nm with
        | none => cases h7
        | some n' =>
          simp only [Bool.and_eq_true] at h7
          have hln : X.env.kindOf n' = some .local := by
            have := h7.2
            rw [← w.w.sc] at this
            exact eq_of_beq this
          refine ehh (hdA (fun k => (envOf P n).sub k c) i (exs (envOf P n) suite)) (fun x σ S => ?_) (sndS_tryA w.stk w.fr w.ex0 w.w.nd (w.w.slot h7.1) hln hc w.w.tk hsb hbody hsuite)
          simp only [exh, hdA, List.any_cons, List.any_nil, Bool.or_false]
          all_goals rfl
    · cases h
  | .try_ body .nil, g, X, W, x, w, h => by
    unfold okS at h
    split at h
    · simp at h
    · cases h
  | .try_ body (.cons [] name suite hs), g, X, W, x, w, h => by
    unfold okS at h
    split at h
    · simp at h
    · cases h
  | .try_ body (.cons (_ :: _ :: _) name suite hs), g, X, W, x, w, h => by
    unfold okS at h
    split at h
    · simp at h
    · cases h
  | .try_ body (.cons [_] name suite (.cons _ _ _ _)), g, X, W, x, w, h => by
    unfold okS at h
    split at h
    · simp at h
    · cases h
  | .fz i s, g, X, W, x, w, h => by unfold okS at h; cases h
theorem wSs : ∀ (ss : Sts) {g : Gc} {X : Cx} {W : WX} {xs : List Stmt}, WdT t P cad n g X W → okSs t g ss xs = true → SndSs X cad W xs (exs (envOf P n) ss)
  | .nil, g, X, W, [], w, h => sndSs_nil
  | .nil, g, X, W, _ :: _, w, h => by simp [okSs] at h
  | .cons s ss, g, X, W, [], w, h => by simp [okSs] at h
  | .cons s ss, g, X, W, x :: xs, w, h => by
    simp only [okSs, Bool.and_eq_true] at h
    have := sndSs_cons (wS s w h.1) (wSs ss w h.2)
    intro B ι σw S σ H D sim sl hh
    rw [exs] at hh
    exact this B ι σw S σ H D sim sl hh
end
end
end E1

set_option maxHeartbeats 1000000
/-! E1: defs keep the promise that the evaluator tells. -/
namespace E1
open PySem PySem.Spec PyProof.Rows L2

/-! ### binding -/
theorem bind_plain {name qual : Str} {params : Arguments} {body : List Stmt} {scope : Scope} {kV doc pm cdv ct : Value} {an : Option Addr} {ps : List Str} {us : List Value} (h1 : params.posonlyargs = []) (h2 : params.args.map (·.arg) = ps) (h3 : params.vararg = none) (h4 : params.kwonlyargs = []) (h5 : params.kwarg = none)
    (hn : ps.Nodup) (hl : us.length = ps.length) : bindArgs (PySem.W.fnOf name qual params body scope .none kV doc pm an cdv ct) ⟨us, []⟩ = pure (ps.zip us) := by
  have lk : ∀ {ps : List Str} {us : List Value}, ps.Nodup → us.length = ps.length → ∀ (i : Nat) (n : Str) (u : Value), ps[i]? = some n → us[i]? = some u → (ps.zip us).lookup n = some u := by
    intro ps
    induction ps with
    | nil => intro us _ _ i n u h; simp at h
    | cons p ps ih =>
      intro us hn hl i n u h1 h2
      cases us with
      | nil => simp at hl
      | cons v us =>
        rw [List.nodup_cons] at hn
        rw [List.zip_cons_cons, List.lookup_cons]
        cases i with
        | zero =>
          simp at h1 h2
          subst h1; subst h2
          rw [beq_self_eq_true]
        | succ i =>
          have h1' : ps[i]? = some n := by simpa using h1
          rw [beq_eq_false_iff_ne.mpr fun e : n = p => hn.1 (by rw [← e]; exact List.mem_of_getElem? h1')]
          exact ih hn.2 (by simpa using hl) i n u h1' (by simpa using h2)
  have look : ∀ {slots : List (Str × Value)} {ps : List Str} {us : List Value}, us.length = ps.length → (∀ (i : Nat) (n : Str) (u : Value), ps[i]? = some n → us[i]? = some u → slots.lookup n = some u) → (ps.filter fun n => (slots.lookup n).isNone) = [] ∧ (ps.filterMap fun n => (slots.lookup n).map (n, ·)) = ps.zip us := by
    intro slots ps
    induction ps with
    | nil => intro us _ _; exact ⟨rfl, rfl⟩
    | cons p ps ih =>
      intro us hl h
      cases us with
      | nil => simp at hl
      | cons u us =>
        obtain ⟨i1, i2⟩ := ih (us := us) (by simpa using hl) fun i n u' h1 h2 => h (i + 1) n u' (by simpa using h1) (by simpa using h2)
        have h0 := h 0 p u rfl rfl
        refine ⟨?_, ?_⟩
        · rw [List.filter_cons, h0]
          simp only [Option.isNone_some, Bool.false_eq_true, if_false]
          exact i1
        · rw [List.zip_cons_cons, List.filterMap_cons, h0]
          simp only [Option.map_some]
          rw [i2]
  obtain ⟨l1, l2⟩ := look hl (lk hn hl)
  obtain ⟨p1, p2, p3, p4, p5, p6, p7⟩ := params
  simp only at h1 h2 h3 h4 h5
  subst h1 h3 h4 h5
  unfold bindArgs
  simp only [PySem.W.fnOf, h2, List.map_nil, List.nil_append, List.append_nil, List.forIn_nil, seqItems?, notAStandIn, pure_bind]
  simp [hl, l1, l2]
/-! ### defs -/
structure DefE where
  key : String
  dd : He.DefD
  N : List String
  d : Def
def okBody (t : Tab) (g : Gc) (b : Sts) (xs : List Stmt) : Bool :=
  match xs with
  | .Expr (.Constant (.str _) _ _) _ :: r => okSs t g b r
  | _ => okSs t g b xs
def parOk (ps : List Str) (p : Arguments) : Bool := p.posonlyargs.isEmpty && decide (p.args.map (·.arg) = ps) && p.vararg.isNone && p.kwonlyargs.isEmpty && p.kwarg.isNone
def okDef (t : Tab) (x : DefE) : Bool :=
  C8.scC (x.N.map Str.ofString) ((x.N.take x.d.np).map Str.ofString) x.dd.scope && decide (x.d.nn = x.N.length) && decide (x.d.np ≤ x.N.length) && x.dd.dfl.isEmpty && x.dd.kwd.isEmpty && parOk ((x.N.take x.d.np).map Str.ofString) x.dd.params &&
    okBody t ⟨x.N, x.dd.scope, none, true⟩ x.d.body x.dd.body
section
variable {t : Tab} {P : Prog} {cad : String → Option Addr} {P0 : Program} {w0 : World} {K : Frag} {mg : Str → Option Value} {base : Heap}
def IsDef (t : Tab) (P : Prog) (K : Frag) (key : String) (fa : Addr) : Prop := ∃ (x : DefE) (fd : FuncData), P.fn key = some x.d ∧ okDef t x = true ∧ FunD K x.dd.name x.dd.qual x.dd.params x.dd.body x.dd.scope [] [] fa fd
def XK (cad : String → Option Addr) (K : Frag) (mg : Str → Option Value) (c : String) (fs : List String) : Prop :=
  ∃ A, mg (Str.ofString c) = some (.ref A) ∧ PySem.W.keepIn K (.ref A) = true ∧ cad c = some A ∧ (ExcC K A ∧ ∀ n ∈ fs, NoAttr K A (Str.ofString n)) ∧ (PySem.W.subIn K (.ref A) (.type "BaseException") = some true ∧ PySem.W.typeIn K (.ref A) = some (.type "type")) ∧
    ((fs = [] ∧ PySem.W.excIn K A PySem.HandSPX.veTail "ValueError.__new__" = true) ∨
      (fs ≠ [] ∧ OexC K A ∧ ∃ (x : XDef) (fI : Addr) (fd : FuncData) (Pa : Addr), x.fs = fs ∧ okX x = true ∧ FunD K x.dd.name x.dd.qual x.dd.params x.dd.body x.dd.scope [] [] fI fd ∧ PySem.W.findIn K (.ref A) "__init__" = some (some (.ref fI)) ∧ PySem.W.typeIn K (.ref fI) = some (.type "function") ∧
        mg (Str.ofString x.par) = some (.ref Pa) ∧ ParC K Pa))
structure StF (t : Tab) (P : Prog) (cad : String → Option Addr) (K : Frag) (mg : Str → Option Value) : Prop where
  fns : ∀ f y, t.fns.lookup f = some y → ∃ fa, mg (Str.ofString y) = some (.ref fa) ∧ PySem.W.keepIn K (.ref fa) = true ∧ IsDef t P K f fa
  cls : ∀ c, c ∈ t.cls → ∃ A fi, mg (Str.ofString c) = some (.ref A) ∧ PySem.W.keepIn K (.ref A) = true ∧ Cls K A ∧ Mk K A fi ∧ cad c = some A ∧ IsDef t P K (c ++ ".__init__") fi
  mts : ∀ c A m, cad c = some A → m ∈ t.mts → (P.fn (c ++ "." ++ m)).isSome = true → ∃ g, Meth K A (Str.ofString m) g ∧ IsDef t P K (c ++ "." ++ m) g
  bts : ∀ b, b ∈ t.bts → mg (Str.ofString b) = none
  tys : ∀ s, s ∈ t.tys → (cad s = none ∧ mg (Str.ofString s) = none ∧ bootBuiltins (Str.ofString s) = some (.type s) ∧ Str.ofString s ≠ ("__name__" : Str)) ∨ ∃ A, cad s = some A ∧ mg (Str.ofString s) = some (.ref A)
  kinds : Kinds cad
  insk : ∀ C A, cad C = some A → Cls K A → InsK K A
  isa : ∀ k t b, P.isa k t = some b → PySem.W.kitOne K (tyVal cad k) (tyVal cad t) = some b
  fld : ∀ c A f, cad c = some A → (P.fld c).contains f = true → NoAttr K A (Str.ofString f)
  xs : ∀ c fs, t.xs.lookup c = some fs → P.fld c = fs ∧ XK cad K mg c fs
  sub : ∀ c A c' fs, cad c = some A → ExcC K A → t.xs.lookup c' = some fs → ∃ A', cad c' = some A' ∧ PySem.W.exmOne K (.ref A) (.ref A') = some (P.sub c c')

theorem fnX {x : XDef} {C fa Pa : Addr} {fd : FuncData} (h2 : okX x = true) (h3 : FunD K x.dd.name x.dd.qual x.dd.params x.dd.body x.dd.scope [] [] fa fd) (T : OexC K C) (hno : ∀ n ∈ x.fs, NoAttr K C (Str.ofString n)) (hm : mg (Str.ofString x.par) = some (.ref Pa)) (hP : ParC K Pa) :
    FnOk P0 w0 K mg base (L2.CX P0 w0) 1 fa fd (x.N.map Str.ofString) (spX K C (x.fs.map Str.ofString)) ∧ Binds K fd (x.N.map Str.ofString) [] := by
  unfold okX at h2
  simp only [Bool.and_eq_true] at h2
  obtain ⟨⟨⟨⟨⟨q1, q2⟩, q3⟩, q4⟩, q5⟩, q6⟩ := h2
  have S := C8.fnScope_by q1
  have q5 : x.fs.length ≤ 800 := of_decide_eq_true q5
  simp only [okX.parOk', Bool.and_eq_true, List.isEmpty_iff, decide_eq_true_eq, Option.isNone_iff_eq_none] at q4
  obtain ⟨⟨⟨⟨p1, p2⟩, p3⟩, p4⟩, p5⟩ := q4
  have nd : (x.N.map Str.ofString).Nodup := S.nd
  refine ⟨?_, h3.bindsN fun kV doc pm an cdv ct us hl => bind_plain p1 p2 p3 p4 p5 nd hl⟩
  refine h3.ok (k := 0) S (fun vs H Q E h => ?_) fun cdv A outer s H vs Q E hr hsp => ?_
  · obtain ⟨a, ws, rfl, hl, _⟩ := h
    simp [XDef.N, hl]
  · obtain ⟨a, ws, rfl, hl, ha, hq⟩ := hsp
    let X : Cx := cxOf (L2.CX P0 w0) P0 w0 K mg base (x.N.map Str.ofString) x.dd.qual x.dd.scope fa cdv A outer s H E
    have vis : ∀ {i : Nat} {y : Str}, okName ⟨x.N, x.dd.scope, none, true⟩ i y = true → X.N[i]? = some y ∧ Vis X.env.scope y ∧ (y == ("__debug__" : Str)) = false ∧ (y == ("__classdict__" : Str)) = false := fun {i y} h => by
      unfold okName isVis at h
      simp only [Bool.and_eq_true] at h
      obtain ⟨⟨⟨h1, h2⟩, h3⟩, h4⟩ := h
      refine ⟨?_, ?_, by simpa using h3, by simpa using h4⟩
      · show (x.N.map Str.ofString)[i]? = some y
        rw [List.getElem?_map]
        split at h1
        · rename_i z e; rw [e, strEq_eq h1]; rfl
        · cases h1
      · show Vis x.dd.scope y
        unfold Vis
        split at h2
        · rename_i e; exact .inl e
        · rename_i e; exact .inr (.inl e)
        · rename_i e; exact .inr (.inr e)
        · cases h2
    have body : ∀ st, xBody ⟨x.N, x.dd.scope, none, true⟩ x.par x.fs st = true → sSts X st { nx := fun _ H' => Q .non H', rt := Q } (L2.start (x.N.map Str.ofString) (.ref a :: ws)) H := by
      intro st h
      unfold xBody at h
      split at h
      · rename_i p pp n apos sn sp m j mp pos pos2 r
        simp only [Bool.and_eq_true] at h
        obtain ⟨⟨⟨⟨⟨⟨⟨h1, h2⟩, h3⟩, h4⟩, h5⟩, h6⟩, h7⟩, h8⟩ := h
        obtain rfl := strEq_eq h1
        obtain rfl : n = ("__init__" : Str) := eq_of_beq h3
        have gl : Gl X (Str.ofString x.par) ∧ (Str.ofString x.par == ("__debug__" : Str)) = false := by
          unfold okGlob isGlob at h2
          rw [Bool.and_eq_true] at h2
          refine ⟨?_, by simpa using h2.2⟩
          have h9 := h2.1
          show x.dd.scope.names.lookup (Str.ofString x.par) = _
          split at h9
          · assumption
          · cases h9
        obtain ⟨s1, s2, s3, s4⟩ := vis h5
        have hfs : x.fs ≠ [] := by
          intro e; rw [e] at h7; simp at h7
        have hst : ∀ (i : Nat) (v : V), (V.ref a :: ws)[i]? = some v → (L2.start (x.N.map Str.ofString) (.ref a :: ws))[i]? = some (some v) := fun i v e => by
          unfold L2.start
          have hi : i < (V.ref a :: ws).length := (List.getElem?_eq_some_iff.mp e).1
          rw [List.getElem?_append_left (by simpa using hi), List.getElem?_map, e]; rfl
        refine sSts.of (pss_cons (ps_expr (pe_xinit gl.1 hm gl.2 hP h4 (by intro y hy; simp at hy; rcases hy with rfl | rfl <;> rfl) (by simp) (pa_cons (pe_var s1 s2 s3 s4) (pa_cons (pe_str (x := m)) pa_nil rfl) rfl))) (pss_sem (st := r))) ?_
        refine ⟨.ref a, hst 0 _ rfl, a, C, [.str m], rfl, by simp, T, ha, ?_⟩
        -- the first field makes the dict
        cases hf : x.fs with
        | nil => exact absurd hf hfs
        | cons f fs =>
          rw [hf] at h8 hl hno hq
          cases ws with
          | nil => simp at hl
          | cons w ws =>
            unfold xAsg at h8
            split at h8
            · rename_i e1 e2; first | cases e2 | (cases e1; rename_i e2; cases e2)
            · rename_i i' f' fs' s' sp n ap v vp pos r e1
              cases e1
              simp only [Bool.and_eq_true] at h8
              obtain ⟨⟨⟨k1, k2⟩, k3⟩, k4⟩ := h8
              obtain ⟨t1, t2, t3, t4⟩ := vis k1
              obtain ⟨v1, v2, v3, v4⟩ := vis k3
              obtain rfl : n = Str.ofString f := eq_of_beq k2
              refine sSts.of (pss_cons (ps_ost (pe_var t1 t2 t3 t4) (pe_var v1 v2 v3 v4)) (pss_sem (st := r))) ?_
              refine ⟨w, hst 1 _ rfl, .ref a, hst 0 _ rfl, a, C, rfl, T, hno f (by simp), .inl ⟨ha, fun dx hdx hne => ?_⟩⟩
              refine xAsg_run (C := C) (a := a) (dx := dx) vis T fs ws _ r [(Str.ofString f, w)] _ k4 (by simpa using hl) (by simp [hf] at q5 ⊢; omega) (fun n hn => hno n (by simp [hn])) (hst 0 _ rfl) (fun j v e => ?_) hne upd_same (by rw [upd_ne hne, upd_same]) fun H' z1 z2 z3 => ?_
              · have := hst (j + 2) v (by simpa using e)
                rw [show 1 + 1 + j = j + 2 from by omega]; exact this
              · refine hq dx H' hdx hne z1 ?_ fun b b1 b2 => ?_
                · rw [z2]; simp
                · rw [z3 b b1 b2, upd_ne b1, upd_ne b2]
            · cases h8
      · cases h
    exact ⟨_, pss_sem (st := x.dd.body), body _ q6⟩
def FnK (cad : String → Option Addr) (P0 : Program) (w0 : World) (K : Frag) (mg : Str → Option Value) (base : Heap) (n : Nat) (r : List D → Store → E1.R D) (fa : Addr) : Prop :=
  ∃ (fd : FuncData) (ps : List Str), FnOk P0 w0 K mg base (L2.CX P0 w0) n fa fd ps (spR K cad r) ∧ Binds K fd ps []
theorem slo_start {ι : List Addr} {B : Addr → Prop} {H : Hp} {ws : List D} {vs : List V} {np nn : Nat} {N : List Str} (r : VRels K cad ι B H ws vs) (hl : ws.length = np) (hN : N.length = nn) : Slo K cad ι B H (ws.map some ++ List.replicate (nn - np) none) (L2.start N vs) := by
  have hv := r.length
  unfold L2.start
  refine ⟨by simp; omega, fun i d h => ?_⟩
  by_cases hi : i < ws.length
  · rw [List.getElem?_append_left (by simpa using hi)] at h
    rw [List.getElem?_map] at h
    obtain ⟨d', h1, h2⟩ := Option.map_eq_some_iff.mp h
    cases h2
    obtain ⟨v, h3, h4⟩ := r.get h1
    refine ⟨v, ?_, h4⟩
    rw [List.getElem?_append_left (by simp; omega), List.getElem?_map, h3]; rfl
  · rw [List.getElem?_append_right (by simpa using hi)] at h
    have := List.mem_of_getElem? h
    simp at this
def DefE.ps (x : DefE) : List Str := (x.N.take x.d.np).map Str.ofString
theorem bind_def {x : DefE} {fa : Addr} {fd : FuncData} (h2 : okDef t x = true) (h3 : FunD K x.dd.name x.dd.qual x.dd.params x.dd.body x.dd.scope [] [] fa fd) : ∀ (s : Shared) (us : List Value), us.length = x.ps.length → BindsTo s fd ⟨us, []⟩ (x.ps.zip us) := by
  unfold okDef at h2
  simp only [Bool.and_eq_true] at h2
  obtain ⟨⟨⟨⟨⟨⟨q1, q2⟩, q3⟩, q4⟩, q5⟩, q6⟩, q7⟩ := h2
  have S := C8.fnScope_by q1
  simp only [parOk, Bool.and_eq_true, List.isEmpty_iff, decide_eq_true_eq, Option.isNone_iff_eq_none] at q6
  obtain ⟨⟨⟨⟨p1, p2⟩, p3⟩, p4⟩, p5⟩ := q6
  have nd : ((x.N.take x.d.np).map Str.ofString).Nodup := by rw [← S.pre]; exact List.Sublist.nodup (List.take_sublist _ _) S.nd
  exact fun s us hl => h3.bindsA (fun kV doc pm an cdv ct us hl => bind_plain p1 p2 p3 p4 p5 nd hl) s us hl
theorem fnk (st : StF t P cad K mg) : ∀ (n : Nat) (key : String) (fa : Addr) (x : DefE) (fd : FuncData), P.fn key = some x.d → okDef t x = true → FunD K x.dd.name x.dd.qual x.dd.params x.dd.body x.dd.scope [] [] fa fd →
    FnOk P0 w0 K mg base (L2.CX P0 w0) (2 * n + 2) fa fd x.ps (spR K cad (call P n key)) ∧ Binds K fd x.ps [] := by
  intro n
  induction n with
  | zero =>
    intro key fa x fd h1 h2 h3
    refine ⟨⟨fun vs H Q E h => ?_, fun A outer s H args us vs Q E _ _ _ _ h => ?_⟩, ?_⟩
    · obtain ⟨B, ι, ws, S, _, _, hp⟩ := h; exact hp.elim
    · obtain ⟨B, ι, ws, S, _, _, hp⟩ := h; exact hp.elim
    · unfold okDef at h2
      simp only [Bool.and_eq_true] at h2
      obtain ⟨⟨⟨⟨⟨⟨q1, q2⟩, q3⟩, q4⟩, q5⟩, q6⟩, q7⟩ := h2
      have S := C8.fnScope_by q1
      simp only [parOk, Bool.and_eq_true, List.isEmpty_iff, decide_eq_true_eq, Option.isNone_iff_eq_none] at q6
      obtain ⟨⟨⟨⟨p1, p2⟩, p3⟩, p4⟩, p5⟩ := q6
      have nd : ((x.N.take x.d.np).map Str.ofString).Nodup := by rw [← S.pre]; exact List.Sublist.nodup (List.take_sublist _ _) S.nd
      exact h3.bindsN fun kV doc pm an cdv ct us hl => bind_plain p1 p2 p3 p4 p5 nd hl
  | succ n ih0 =>
    have ih : ∀ (key : String) (fa : Addr), IsDef t P K key fa → FnK cad P0 w0 K mg base (2 * n + 2) (call P n key) fa := fun key fa ⟨x, fd, h1, h2, h3⟩ => ⟨fd, x.ps, ih0 key fa x fd h1 h2 h3⟩
    intro key fa x fd h1 h2 h3
    have h2' := h2
    unfold okDef at h2'
    simp only [Bool.and_eq_true] at h2'
    obtain ⟨⟨⟨⟨⟨⟨q1, q2⟩, q3⟩, q4⟩, q5⟩, q6⟩, q7⟩ := h2'
    have S := C8.fnScope_by q1
    have q2 : x.d.nn = x.N.length := of_decide_eq_true q2
    have q3 : x.d.np ≤ x.N.length := of_decide_eq_true q3
    simp only [parOk, Bool.and_eq_true, List.isEmpty_iff, decide_eq_true_eq, Option.isNone_iff_eq_none] at q6
    obtain ⟨⟨⟨⟨p1, p2⟩, p3⟩, p4⟩, p5⟩ := q6
    have nd : ((x.N.take x.d.np).map Str.ofString).Nodup := by rw [← S.pre]; exact List.Sublist.nodup (List.take_sublist _ _) S.nd
    have hps : ((x.N.take x.d.np).map Str.ofString).length = x.d.np := by simp; omega
    have run_len : ∀ {ws : List D} {S0 : Store} {ok exn}, Post (call P (n + 1) key ws S0) ok exn → ws.length = x.d.np ∧ Post (match exs (envOf P n) x.d.body (ws.map some ++ List.replicate (x.d.nn - x.d.np) none) S0 with
        | .ret w _ S => E1.R.ok w S
        | .nx _ S => .ok .non S
        | .exc x _ S => .exc x S
        | _ => .no) ok exn := by
      intro ws S0 ok exn h
      rw [call_succ P n key ws S0 x.d h1] at h
      unfold run at h
      split at h
      · rename_i hh; exact ⟨hh.1, h⟩
      · exact h.elim
    refine ⟨?_, h3.bindsN fun kV doc pm an cdv ct us hl => bind_plain p1 p2 p3 p4 p5 nd hl⟩
    refine h3.ok (k := 2 * n + 3) S (fun vs H Q E h => ?_) fun cdv A outer s H vs Q E hr hsp => ?_
    · obtain ⟨B, ι, ws, S0, sim, rv, hp⟩ := h
      rw [← rv.length, (run_len hp).1]; exact hps.symm
    · obtain ⟨B, ι, ws, S0, sim, rv, hp⟩ := hsp
      obtain ⟨hl, hp⟩ := run_len hp
      let X : Cx := cxOf (L2.CX P0 w0) P0 w0 K mg base (x.N.map Str.ofString) x.dd.qual x.dd.scope fa cdv A outer s H E
      have wd : Wd t P cad n ⟨x.N, x.dd.scope, none, true⟩ X (fun c d _ H' => E c d H') := {
        st := {
          fns := fun f y h => let ⟨a, b1, b2, b3⟩ := st.fns f y h; ⟨a, b1, b2, ⟨ih f a b3⟩⟩
          cls := fun c h => let ⟨A, fi, b1, b2, b3, b4, b5, b6⟩ := st.cls c h; ⟨A, fi, b1, b2, b3, b4, b5, ⟨ih _ fi b6⟩⟩
          mts := fun c A m b1 b2 b3 => let ⟨g, b4, b5⟩ := st.mts c A m b1 b2 b3; ⟨g, b4, ⟨ih _ g b5⟩⟩
          bts := st.bts
          tys := st.tys
          kinds := st.kinds
          insk := st.insk
          isa := st.isa
          fld := st.fld }
        hN := rfl
        nd := S.nd
        sc := rfl
        fn := .inl ⟨rfl, fun _ => rfl⟩
        calm := fun _ => rfl
        un := by have := hr.un; show (A.deeper _).units + 65 < cLine; omega
        room := fun _ => hr
        tk := takes_of rfl rfl rfl rfl }
      have wt : WdT t P cad n ⟨x.N, x.dd.scope, none, true⟩ X (fun c d _ H' => E c d H') := {
        w := wd
        po := passes_of rfl
        kd := S.kind
        stk := rfl
        fr := rfl
        ex0 := rfl
        room2 := fun _ => hr.mono (by omega)
        xs := fun c fs q => by
          obtain ⟨x1, A, x2, x3, x4, x5, x6, x7⟩ := st.xs c fs q
          refine ⟨x1, A, x2, x3, x4, x5, raises_own x6.1 x6.2, ?_⟩
          rcases x7 with x7 | ⟨x7, x8, y, fI, fd', Pa, y1, y2, y3, y4, y5, y6, y7⟩
          · exact .inl x7
          · subst y1
            obtain ⟨z1, z2⟩ := fnX (P0 := P0) (w0 := w0) (base := base) y2 y3 x8 x5.2 y6 y7
            exact .inr ⟨x7, x8, fI, fd', _, y4, y5, z1, z2⟩
        sub := st.sub }
      have post : PostS K cad ι B H (fun c d _ H' => E c d H') { nx := fun _ H' => Q .non H', rt := Q } (exs (envOf P n) x.d.body (ws.map some ++ List.replicate (x.d.nn - x.d.np) none) S0) := by
        cases e : exs (envOf P n) x.d.body (ws.map some ++ List.replicate (x.d.nn - x.d.np) none) S0 with
        | nx σ S1 => rw [e] at hp; exact fun ι' σ' H' s' sim' _ => hp ι' .non H' s' sim' .non
        | ret d σ S1 => rw [e] at hp; exact hp
        | exc y σ S1 => rw [e] at hp; exact fun ι' σ' cls dd H' s' sim' _ r => hp ι' cls dd H' s' sim' r
        | brk σ S1 => rw [e] at hp; exact hp.elim
        | cnt σ S1 => rw [e] at hp; exact hp.elim
        | no => rw [e] at hp; exact hp.elim
      have slo : Slo K cad ι B H (ws.map some ++ List.replicate (x.d.nn - x.d.np) none) (L2.start (x.N.map Str.ofString) vs) := slo_start rv hl (by simp [q2])
      have go : ∀ xs, okSs t ⟨x.N, x.dd.scope, none, true⟩ x.d.body xs = true → sSts X xs { nx := fun _ H' => Q .non H', rt := Q } (L2.start (x.N.map Str.ofString) vs) H := fun xs hx =>
        wSs x.d.body wt hx B ι _ S0 _ H _ sim slo post
      unfold okBody at q7
      split at q7
      · rename_i c1 c2 c3 c4 r hb
        rw [hb]
        exact ⟨_, pss_cons ps_doc (pss_sem (st := r)), go r q7⟩
      · exact ⟨_, pss_sem (st := x.dd.body), go _ q7⟩
end
end E1

set_option maxHeartbeats 1000000
/-! E1: the end of a law, by tables. -/
namespace E1
open PySem PySem.Spec PyProof.Rows L2

structure Tbl where
  defs : List DefE
  fns : List String
  cls : List String
  cs : List String
  mts : List String
  bts : List String
  tys : List String
  isa : List (String × String × Bool)
  fld : List (String × List String)
  xs : List (String × List String) := []
  xd : List XDef := []
  sub : List (String × String) := []
def Tbl.tab (L : Tbl) : Tab := ⟨L.fns.map fun f => (f, f), L.cls, L.mts, L.bts, L.tys, L.xs⟩
def Tbl.xn (L : Tbl) : List String := L.xs.map (·.1)
def Tbl.al (L : Tbl) : List String := L.cs ++ L.xn
def Tbl.find (L : Tbl) (f : String) : Option DefE := L.defs.find? fun x => x.key == f
def Tbl.isaF (L : Tbl) (k t : String) : Option Bool := (L.isa.find? fun x => x.1 == k && x.2.1 == t).map (·.2.2)
def Tbl.fldF (L : Tbl) (c : String) : List String := ((L.fld ++ L.xs).lookup c).getD []
def Tbl.prog (L : Tbl) : Prog := ⟨fun f => (L.find f).map (·.d), fun _ => none, fun a b => L.sub.contains (a, b), L.isaF, L.fldF⟩
def Tbl.cad (L : Tbl) (K : Frag) : String → Option Addr := fun c => if L.al.contains c then some (He.ga K (Str.ofString c)) else none
def Tbl.tv (L : Tbl) (K : Frag) (k : String) : Value := if L.al.contains k then .ref (He.ga K (Str.ofString k)) else .type k
def Tbl.fa (L : Tbl) : List He.Fa :=
  L.fns.map (fun p => .glo (Str.ofString p)) ++ (L.al.map (fun c => .glo (Str.ofString c)) ++ (L.cs.map (fun c => .cls (Str.ofString c)) ++ (L.cls.map (fun c => .mkr (Str.ofString c)) ++
  ((L.cs.flatMap fun c => (L.mts.filter fun m => (L.find (c ++ "." ++ m)).isSome).map fun m => .meth (Str.ofString c) (Str.ofString m)) ++
  (L.bts.map (fun b => .free (Str.ofString b)) ++ ((L.tys.filter fun s => !L.al.contains s).map (fun s => .free (Str.ofString s)) ++
  (L.fld ++ L.xs).flatMap fun p => p.2.map fun f => .noat (Str.ofString p.1) (Str.ofString f)))))))
def Tbl.fn (L : Tbl) : List He.DefD := L.defs.map (·.dd) ++ L.xd.map (·.dd)
def excB (K : Frag) (A : Addr) : Bool :=
  decide (PySem.W.findIn K (.ref A) "__getattribute__" = some (some (.builtin "BaseException.__getattribute__"))) && (decide (PySem.W.findIn K (.ref A) "__getattr__" = some none) && (decide (PySem.W.subIn K (.ref A) (.type "BaseException") = some true) && (PySem.W.hasDictIn K A &&
  (decide (PySem.W.findIn K (.ref A) "__class__" = some (some (.builtin "object.__class__"))) && (decide (PySem.W.specialIn K (.builtin "object.__class__") "__get__" = some (some (.builtin "getset_descriptor.__get__"))) && (decide (PySem.W.takesIn K (.builtin "object.__class__") = some true) &&
  (decide (PySem.W.mroIn K A (.type "object") = some true) && (decide (PySem.W.typeIn K (.ref A) = some (.type "type")) && PySem.W.keepIn K (.ref A)))))))))
def oexB (K : Frag) (A : Addr) : Bool := (match K.lookup A with
  | some ⟨.type "type", _, .cls cd, sl⟩ => (match cd.mro, sl.toList with
    | .ref C' :: bm, [_, _, _, _, some (.builtin n), _] => C' == A && n == "ValueError.__new__" && !cd.hasDel && cd.hasDict && PySem.HandSPX.refsVE bm
    | _, _ => false)
  | _ => false) && decide (PySem.W.findIn K (.ref A) "__setattr__" = some (some (.builtin "object.__setattr__")))
def parB (K : Frag) (P : Addr) : Bool :=
  decide (PySem.W.specialIn K (.ref P) "__getattribute__" = some (some (.builtin "type.__getattribute__"))) && (PySem.W.readsIn K P (.type "type") && (match PySem.W.findCls K (.ref P) (.type "type") "__init__" with
    | some (.val v) => decide (v = .builtin "ValueError.__init__")
    | _ => false))
def Tbl.xB (L : Tbl) (K : Frag) (p : String × List String) : Bool :=
  excB K (He.ga K (Str.ofString p.1)) && (if p.2.isEmpty then PySem.W.excIn K (He.ga K (Str.ofString p.1)) PySem.HandSPX.veTail "ValueError.__new__" else
    oexB K (He.ga K (Str.ofString p.1)) && (match L.xd.find? (fun x => x.cls == p.1) with
      | some x => decide (x.fs = p.2) && (decide (PySem.W.findIn K (.ref (He.ga K (Str.ofString p.1))) "__init__" = some (some (.ref (He.fAd K x.dd.at_)))) && (decide (PySem.W.typeIn K (.ref (He.fAd K x.dd.at_)) = some (.type "function")) && (L.xn.contains x.par && parB K (He.ga K (Str.ofString x.par)))))
      | none => false))
def insB (K : Frag) (A : Addr) : Bool :=
  decide (PySem.W.findIn K (.ref A) "__class__" = some (some (.builtin "object.__class__"))) && decide (PySem.W.specialIn K (.builtin "object.__class__") "__get__" = some (some (.builtin "getset_descriptor.__get__"))) &&
  decide (PySem.W.takesIn K (.builtin "object.__class__") = some true) && decide (PySem.W.mroIn K A (.type "object") = some true)
def Tbl.ex (L : Tbl) (K : Frag) : Bool := L.al.all (fun c => insB K (He.ga K (Str.ofString c))) && (L.isa.all fun x => decide (PySem.W.kitOne K (L.tv K x.1) (L.tv K x.2.1) = some x.2.2)) &&
  (L.xs.all (L.xB K) && L.al.all fun c => L.xn.all fun c' => decide (PySem.W.exmOne K (.ref (He.ga K (Str.ofString c))) (.ref (He.ga K (Str.ofString c'))) = some (L.sub.contains (c, c'))))
def Tbl.okT (L : Tbl) : Bool :=
  (L.fns.all fun f => match L.find f with | some x => decide (x.dd.at_ = (Str.ofString f, none)) | none => false) &&
  (L.cls.all fun c => L.cs.contains c && match L.find (c ++ ".__init__") with | some x => decide (x.dd.at_ = (Str.ofString c, some (Str.ofString "__init__"))) | none => false) &&
  (L.cs.all fun c => L.mts.all fun m => match L.find (c ++ "." ++ m) with | some x => decide (x.dd.at_ = (Str.ofString c, some (Str.ofString m))) | none => true) &&
  (L.tys.all fun s => L.al.contains s || (decide (bootBuiltins (Str.ofString s) = some (.type s)) && decide (Str.ofString s ≠ ("__name__" : Str)))) &&
  (["NoneType", "bool", "int", "str", "tuple", "list"].all fun k => !L.al.contains k) && (L.xn.all fun c => L.mts.all fun m => (L.find (c ++ "." ++ m)).isNone) &&
  (L.xs.all fun p => decide (L.fldF p.1 = p.2)) && L.xd.all fun x => okX x && x.dd.dfl.isEmpty && x.dd.kwd.isEmpty
def Tbl.okD (L : Tbl) : Bool := L.defs.all fun x => okDef L.tab x
structure SaysM (L : Tbl) (K : Frag) : Prop where
  says : He.SaysD L.fa L.fn K
  ex : L.ex K = true
section
variable {L : Tbl} {K : Frag} {mg : Str → Option Value} {h : Heap}
theorem SaysM.fact (c : SaysM L K) {f : He.Fa} (hf : f ∈ L.fa) : f.ok K = true := by
  obtain ⟨i, hi, e⟩ := List.mem_iff_getElem.mp hf
  exact c.says.fact i (f := f) (by rw [List.getElem?_eq_getElem hi, e])
theorem SaysM.def_ (c : SaysM L K) {x : DefE} (hx : x ∈ L.defs) (ok : okDef L.tab x = true) : ∃ fd, FunD K x.dd.name x.dd.qual x.dd.params x.dd.body x.dd.scope [] [] (He.fAd K x.dd.at_) fd := by
  have hm : x.dd ∈ L.fn := List.mem_append_left _ (List.mem_map.mpr ⟨x, hx, rfl⟩)
  obtain ⟨i, hi, e⟩ := List.mem_iff_getElem.mp hm
  obtain ⟨fd, F⟩ := c.says.def_ i (d := x.dd) (by rw [List.getElem?_eq_getElem hi, e])
  refine ⟨fd, ?_⟩
  unfold okDef at ok
  simp only [Bool.and_eq_true, List.isEmpty_iff] at ok
  obtain ⟨⟨⟨⟨⟨⟨q1, q2⟩, q3⟩, q4⟩, q5⟩, q6⟩, q7⟩ := ok
  unfold He.DefD.dvs He.DefD.kws at F
  rw [q4, q5] at F
  exact F
theorem SaysM.xdef (c : SaysM L K) {x : XDef} (hx : x ∈ L.xd) (h1 : x.dd.dfl = []) (h2 : x.dd.kwd = []) : ∃ fd, FunD K x.dd.name x.dd.qual x.dd.params x.dd.body x.dd.scope [] [] (He.fAd K x.dd.at_) fd := by
  have hm : x.dd ∈ L.fn := List.mem_append_right _ (List.mem_map.mpr ⟨x, hx, rfl⟩)
  obtain ⟨i, hi, e⟩ := List.mem_iff_getElem.mp hm
  obtain ⟨fd, F⟩ := c.says.def_ i (d := x.dd) (by rw [List.getElem?_eq_getElem hi, e])
  refine ⟨fd, ?_⟩
  unfold He.DefD.dvs He.DefD.kws at F
  rw [h1, h2] at F
  exact F
theorem find_mem {f : String} {x : DefE} (h : L.find f = some x) : x ∈ L.defs ∧ x.key = f := ⟨List.mem_of_find?_eq_some h, by simpa using List.find?_some h⟩
theorem isDef_of (c : SaysM L K) (okD : L.okD = true) {key : String} {x : DefE} (hx : L.find key = some x) : IsDef L.tab L.prog K key (He.fAd K x.dd.at_) := by
  obtain ⟨h1, h2⟩ := find_mem hx
  have ok : okDef L.tab x = true := (List.all_eq_true.mp okD) x h1
  obtain ⟨fd, F⟩ := c.def_ h1 ok
  exact ⟨x, fd, by show (L.find key).map (·.d) = _; rw [hx]; rfl, ok, F⟩
theorem cad_some {c : String} {A : Addr} (h : L.cad K c = some A) : c ∈ L.al ∧ A = He.ga K (Str.ofString c) := by
  unfold Tbl.cad at h
  split at h
  · rename_i hc; cases h; exact ⟨by simpa using hc, rfl⟩
  · cases h
theorem cad_of {c : String} (h : c ∈ L.al) : L.cad K c = some (He.ga K (Str.ofString c)) := by
  unfold Tbl.cad; rw [if_pos (by simpa using h)]
theorem lookup_same {f y : String} : ∀ {l : List String}, (l.map fun f => (f, f)).lookup f = some y → f ∈ l ∧ y = f
  | [], h => by cases h
  | a :: l, h => by
    rw [List.map_cons, List.lookup_cons] at h
    by_cases e : f = a
    · subst e; rw [beq_self_eq_true] at h; cases h; exact ⟨by simp, rfl⟩
    · rw [beq_eq_false_iff_ne.mpr e] at h
      obtain ⟨h1, h2⟩ := lookup_same h
      exact ⟨by simp [h1], h2⟩
theorem lookup_mem {f : String} {y : List String} : ∀ {l : List (String × List String)}, l.lookup f = some y → (f, y) ∈ l
  | [], h => by cases h
  | (a, b) :: l, h => by
    rw [List.lookup_cons] at h
    by_cases e : f = a
    · subst e; rw [beq_self_eq_true] at h; cases h; exact List.mem_cons_self ..
    · rw [beq_eq_false_iff_ne.mpr e] at h
      exact List.mem_cons_of_mem _ (lookup_mem h)
theorem stF_of (X : K.In h) (G : h.Ns mainGlobals mg) (okT : L.okT = true) (okD : L.okD = true) (c : SaysM L K) : StF L.tab L.prog (L.cad K) K mg := by
  unfold Tbl.okT at okT
  simp only [Bool.and_eq_true] at okT
  obtain ⟨⟨⟨⟨⟨⟨⟨t1, t2⟩, t3⟩, t4⟩, t5⟩, t6⟩, t7⟩, t8⟩ := okT
  have ex := c.ex
  unfold Tbl.ex at ex
  simp only [Bool.and_eq_true] at ex
  obtain ⟨⟨e1, e2⟩, e3, e4⟩ := ex
  have al_cs : ∀ {c}, c ∈ L.cs → c ∈ L.al := fun {c} h => List.mem_append_left _ h
  have al_xn : ∀ {c}, c ∈ L.xn → c ∈ L.al := fun {c} h => List.mem_append_right _ h
  have tv : ∀ k, tyVal (L.cad K) k = L.tv K k := fun k => by
    unfold tyVal Tbl.cad Tbl.tv
    split
    · rename_i A hA
      split at hA
      · rename_i hc; rw [if_pos hc]; cases hA; rfl
      · cases hA
    · rename_i hA
      split at hA
      · cases hA
      · rename_i hc; rw [if_neg hc]
  refine ⟨?_, ?_, ?_, ?_, ?_, ?_, ?_, ?_, ?_, ?_, ?_⟩
  · intro f y hl
    obtain ⟨hm, rfl⟩ := lookup_same hl
    have h1 := List.all_eq_true.mp t1 _ hm
    split at h1
    · rename_i x hx
      have ha : x.dd.at_ = (Str.ofString y, none) := of_decide_eq_true h1
      have d := isDef_of c okD hx
      rw [ha] at d
      have d' := d
      obtain ⟨x', fd, _, _, F⟩ := d'
      exact ⟨He.ga K (Str.ofString y), He.glo_ok X G (c.fact (List.mem_append_left _ (List.mem_map.mpr ⟨y, hm, rfl⟩))), F.kp, d⟩
    · cases h1
  · intro cl hcl
    have h1 := List.all_eq_true.mp t2 _ hcl
    rw [Bool.and_eq_true] at h1
    obtain ⟨h1, h2⟩ := h1
    have hcs : cl ∈ L.cs := by simpa using h1
    split at h2
    · rename_i x hx
      have ha : x.dd.at_ = (Str.ofString cl, some (Str.ofString "__init__")) := of_decide_eq_true h2
      have d := isDef_of c okD hx
      rw [ha] at d
      have fg : (He.Fa.glo (Str.ofString cl)).ok K = true := c.fact (by unfold Tbl.fa; simp only [List.mem_append]; exact .inr (.inl (List.mem_map.mpr ⟨cl, al_cs hcs, rfl⟩)))
      have fc : (He.Fa.cls (Str.ofString cl)).ok K = true := c.fact (by unfold Tbl.fa; simp only [List.mem_append]; exact .inr (.inr (.inl (List.mem_map.mpr ⟨cl, hcs, rfl⟩))))
      have fm : (He.Fa.mkr (Str.ofString cl)).ok K = true := c.fact (by unfold Tbl.fa; simp only [List.mem_append]; exact .inr (.inr (.inr (.inl (List.mem_map.mpr ⟨cl, hcl, rfl⟩)))))
      have M := He.mkr_ok fm
      have kp : PySem.W.keepIn K (.ref (He.ga K (Str.ofString cl))) = true := by
        obtain ⟨c1, c2⟩ := He.ba fm
        obtain ⟨c3, c4⟩ := He.ba c2
        obtain ⟨c5, c6⟩ := He.ba c4
        exact c6
      exact ⟨_, _, He.glo_ok X G fg, kp, He.cls_ok fc, M, cad_of (al_cs hcs), d⟩
    · cases h2
  · intro cl A m hA hm hs
    obtain ⟨hal, rfl⟩ := cad_some hA
    rcases List.mem_append.mp hal with hcs | hxn
    rotate_left
    · have h1 := List.all_eq_true.mp (List.all_eq_true.mp t6 _ hxn) m hm
      have : ((L.find (cl ++ "." ++ m)).map (·.d)).isSome = true := hs
      rw [Option.isNone_iff_eq_none.mp h1] at this
      cases this
    have h1 := List.all_eq_true.mp (List.all_eq_true.mp t3 _ hcs) m hm
    have hs' : (L.find (cl ++ "." ++ m)).isSome = true := by
      have : ((L.find (cl ++ "." ++ m)).map (·.d)).isSome = true := hs
      simpa using this
    obtain ⟨x, hx⟩ := Option.isSome_iff_exists.mp hs'
    rw [hx] at h1
    have ha : x.dd.at_ = (Str.ofString cl, some (Str.ofString m)) := of_decide_eq_true h1
    have d := isDef_of c okD hx
    rw [ha] at d
    have fm : (He.Fa.meth (Str.ofString cl) (Str.ofString m)).ok K = true := c.fact (by
      unfold Tbl.fa; simp only [List.mem_append]
      exact .inr (.inr (.inr (.inr (.inl (List.mem_flatMap.mpr ⟨cl, hcs, List.mem_map.mpr ⟨m, List.mem_filter.mpr ⟨hm, hs'⟩, rfl⟩⟩))))))
    exact ⟨_, He.meth_ok fm, d⟩
  · intro b hb
    exact He.free_ok X G (c.fact (by
      unfold Tbl.fa; simp only [List.mem_append]
      exact .inr (.inr (.inr (.inr (.inr (.inl (List.mem_map.mpr ⟨b, hb, rfl⟩)))))))) 
  · intro s hs
    have h1 := List.all_eq_true.mp t4 s hs
    by_cases hc : L.al.contains s = true
    · have hcs : s ∈ L.al := by simpa using hc
      exact .inr ⟨_, cad_of hcs, He.glo_ok X G (c.fact (by unfold Tbl.fa; simp only [List.mem_append]; exact .inr (.inl (List.mem_map.mpr ⟨s, hcs, rfl⟩))))⟩
    · rw [Bool.or_eq_true] at h1
      rcases h1 with h1 | h1
      · exact absurd h1 hc
      · rw [Bool.and_eq_true] at h1
        refine .inl ⟨by unfold Tbl.cad; rw [if_neg hc], He.free_ok X G (c.fact ?_), of_decide_eq_true h1.1, of_decide_eq_true h1.2⟩
        unfold Tbl.fa; simp only [List.mem_append]
        exact .inr (.inr (.inr (.inr (.inr (.inr (.inl (List.mem_map.mpr ⟨s, List.mem_filter.mpr ⟨hs, by simpa using hc⟩, rfl⟩)))))))
  · intro k hk
    have h1 := List.all_eq_true.mp t5 k hk
    unfold Tbl.cad
    rw [if_neg (by simpa using h1)]
  · intro cl A hA _
    obtain ⟨hcs, rfl⟩ := cad_some hA
    have h1 := List.all_eq_true.mp e1 cl hcs
    unfold insB at h1
    simp only [Bool.and_eq_true, decide_eq_true_eq] at h1
    obtain ⟨⟨⟨a1, a2⟩, a3⟩, a4⟩ := h1
    exact ⟨a1, a2, a3, a4⟩
  · intro k t b hb
    rw [tv, tv]
    have hb' : (L.isa.find? fun x => x.1 == k && x.2.1 == t).map (·.2.2) = some b := hb
    obtain ⟨x, hx, rfl⟩ := Option.map_eq_some_iff.mp hb'
    have hp := List.find?_some hx
    simp only [Bool.and_eq_true, beq_iff_eq] at hp
    have h1 := List.all_eq_true.mp e2 x (List.mem_of_find?_eq_some hx)
    rw [← hp.1, ← hp.2]
    exact of_decide_eq_true h1
  · intro cl A f hA hf
    obtain ⟨hcs, rfl⟩ := cad_some hA
    have hf' : (((L.fld ++ L.xs).lookup cl).getD []).contains f = true := hf
    cases e : (L.fld ++ L.xs).lookup cl with
    | none => rw [e] at hf'; simp at hf'
    | some fs =>
      rw [e] at hf'
      have hm : (cl, fs) ∈ L.fld ++ L.xs := lookup_mem e
      exact He.noat_ok (c.fact (by
        unfold Tbl.fa; simp only [List.mem_append]
        exact .inr (.inr (.inr (.inr (.inr (.inr (.inr (List.mem_flatMap.mpr ⟨(cl, fs), hm, List.mem_map.mpr ⟨f, by simpa using hf', rfl⟩⟩)))))))))
  · intro cl fs hl
    have hm := lookup_mem hl
    have hxn : cl ∈ L.xn := List.mem_map.mpr ⟨(cl, fs), hm, rfl⟩
    have hfl : L.fldF cl = fs := of_decide_eq_true (List.all_eq_true.mp t7 _ hm)
    have b := List.all_eq_true.mp e3 _ hm
    unfold Tbl.xB at b
    rw [Bool.and_eq_true] at b
    obtain ⟨b1, b2⟩ := b
    have b1' := b1
    unfold excB at b1
    simp only [Bool.and_eq_true, decide_eq_true_eq] at b1
    obtain ⟨c1, c2, c3, c4, c5, c6, c7, c8, c9, c10⟩ := b1
    have glo : ∀ {y}, y ∈ L.xn → mg (Str.ofString y) = some (.ref (He.ga K (Str.ofString y))) := fun {y} hy => He.glo_ok X G (c.fact (by unfold Tbl.fa; simp only [List.mem_append]; exact .inr (.inl (List.mem_map.mpr ⟨y, al_xn hy, rfl⟩))))
    have noat : ∀ n ∈ fs, NoAttr K (He.ga K (Str.ofString cl)) (Str.ofString n) := fun n hn => He.noat_ok (c.fact (by
        unfold Tbl.fa; simp only [List.mem_append]
        exact .inr (.inr (.inr (.inr (.inr (.inr (.inr (List.mem_flatMap.mpr ⟨(cl, fs), List.mem_append_right _ hm, List.mem_map.mpr ⟨n, hn, rfl⟩⟩)))))))))
    refine ⟨hfl, He.ga K (Str.ofString cl), glo hxn, c10, cad_of (al_xn hxn), ⟨⟨c1, c2, c3, c4, c5, c6, c7, c8⟩, noat⟩, ⟨c3, c9⟩, ?_⟩
    by_cases hfs : fs = []
    · subst hfs
      exact .inl ⟨rfl, b2⟩
    · have hfs' : fs.isEmpty = false := by
        cases fs with
        | nil => exact absurd rfl hfs
        | cons _ _ => rfl
      simp only [hfs', Bool.false_eq_true, if_false, Bool.and_eq_true] at b2
      obtain ⟨b3, b4⟩ := b2
      refine .inr ⟨hfs, ?_, ?_⟩
      · unfold oexB at b3
        rw [Bool.and_eq_true] at b3
        obtain ⟨b5, b6⟩ := b3
        refine ⟨?_, of_decide_eq_true b6, c3, c9, c10⟩
        split at b5
        · rename_i dd cd sl ho
          split at b5
          · rename_i C' bm k0 k1 k2 k3 n k5 hmm hs
            simp only [Bool.and_eq_true, beq_iff_eq, Bool.not_eq_true'] at b5
            obtain ⟨⟨⟨⟨q1, q2⟩, hdel⟩, hdict⟩, ht⟩ := b5
            obtain ⟨nm, bs, mro, ns, qn, hd, sn, sub, ab, col, del⟩ := cd
            dsimp only at hmm hdel hdict
            subst hmm hdel hdict q2
            rw [← q1] at ho ⊢
            have hsl : sl = #[k0, k1, k2, k3, some (.builtin "ValueError.__new__"), k5] := by
              obtain ⟨l⟩ := sl
              simp only at hs
              rw [hs]
            subst hsl
            exact ⟨nm, qn, ns, bs, bm, sn, sub, ab, col, dd, k0, k1, k2, k3, k5, ho, ht⟩
          · cases b5
        · cases b5
      · split at b4
        · rename_i x hx
          simp only [Bool.and_eq_true, decide_eq_true_eq] at b4
          obtain ⟨d1, d2, d3, d4, d5⟩ := b4
          have hxm : x ∈ L.xd := List.mem_of_find?_eq_some hx
          have ok := List.all_eq_true.mp t8 x hxm
          simp only [Bool.and_eq_true, List.isEmpty_iff] at ok
          obtain ⟨⟨o1, o2⟩, o3⟩ := ok
          obtain ⟨fd, F⟩ := c.xdef hxm o2 o3
          unfold parB at d5
          simp only [Bool.and_eq_true, decide_eq_true_eq] at d5
          obtain ⟨p1, p2, p3⟩ := d5
          refine ⟨x, _, fd, _, d1, o1, F, d2, d3, glo (by simpa using d4), ⟨p1, p2, ?_⟩⟩
          split at p3
          · rename_i v hv
            rw [hv, of_decide_eq_true p3]
          · cases p3
        · cases b4
  · intro cl A c' fs hA _ hl
    obtain ⟨hal, rfl⟩ := cad_some hA
    have hxn : c' ∈ L.xn := List.mem_map.mpr ⟨(c', fs), lookup_mem hl, rfl⟩
    exact ⟨_, cad_of (al_xn hxn), of_decide_eq_true (List.all_eq_true.mp (List.all_eq_true.mp e4 _ hal) _ hxn)⟩
end

/-! ### the hook -/
abbrev AlM : Type := He.AlD × Bool
def obsM (L : Tbl) (n : Nat) (g : Addr → Option Obj) : AlM := (He.obsD L.fa L.fn (He.frG g (PySem.cStatics :: He.asD g n)), L.ex (He.frG g (PySem.cStatics :: He.asD g n)))
def hookM (L : Tbl) (n : Nat) : PySem.W.Hook where
  α := AlM
  obs := fun s => obsM L n s.heap.get?
  val := fun _ => (He.valD L.fn, true)
  says := fun _ h => ∃ K : PySem.W.Frag, K.In h ∧ SaysM L K
  of := fun _ _ e => ⟨_, He.frG_in, ⟨congrArg (fun z : AlM => z.1) e, congrArg (fun z : AlM => z.2) e⟩⟩
  keeps := fun _ _ _ ⟨K, hK, c⟩ k => ⟨K, PySem.W.Frag.In.keeps hK k, c⟩
theorem obsM_eq {L : Tbl} {n : Nat} {g : Addr → Option Obj} {s : Shared} (h : ∀ a, g a = s.heap.get? a) : obsM L n g = (hookM L n).obs s := by
  have e : g = s.heap.get? := funext h
  rw [e] <;> rfl

/-! ### the end -/
theorem scr_of {K : Frag} {H : Hp} {a : Addr} {xs : List V} (o : Only H) (h : SqL K H a xs) : ScrR K H a xs := by
  rcases h with h | h
  · rcases h with h | h
    · rcases o a with z | ⟨ob, ys, z⟩
      · rw [z] at h; cases h
      · rw [z] at h; cases h
    · exact .inl h
  · exact .inr h
theorem walk_E1 {l : PySem.W.OpenLaw} {m n : Nat} {L : Tbl} {q : Program} {loose : List Str} {XP : (Str → Option Value) → Heap → Prop} {d : DefRec} {x : DefE}
    (hn : l.most = some 63) (hdf : d.params.defaults = []) (hr : Room (2 * n + 2) callerA) (okT : L.okT = true) (okD : L.okD = true) (hx : L.find "law" = some x) (hfns : "law" ∈ L.fns) (hps : x.ps.length = 1) (hname : d.name = ("law" : Str))
    (pure_ : ∀ ns : List Int, ns.length ≤ 63 → ∃ S, call L.prog n "law" [.scr ns] [] = .ok (.bl true) S) :
    PySem.W.WalkO q loose XP (hookM L m).says l.row.toRowW d [] (fun f vs => PySem.call f vs) := by
  refine Att.attach_call hn hdf fun w s₀ s₁ mg mb fa o pm cd doc a vs ns G Y ho hd hcd hmg hobj hints hlen hg => ?_
  obtain ⟨K, KX, c⟩ := Y
  have st := stF_of (mg := mg) KX G.T.g okT okD c
  obtain ⟨hm, hk⟩ := find_mem hx
  have ok : okDef L.tab x = true := (List.all_eq_true.mp okD) x hm
  have hat : x.dd.at_ = (Str.ofString "law", none) := by
    have okT' := okT
    unfold Tbl.okT at okT'
    simp only [Bool.and_eq_true] at okT'
    have h1 := List.all_eq_true.mp okT'.1.1.1.1.1.1.1 _ hfns
    rw [hx] at h1
    exact of_decide_eq_true h1
  obtain ⟨fd, F⟩ := c.def_ hm ok
  rw [hat] at F
  have hga : mg ("law" : Str) = some (.ref (He.ga K "law")) := He.glo_ok KX G.T.g (c.fact (List.mem_append_left _ (List.mem_map.mpr ⟨"law", hfns, rfl⟩)))
  rw [hname] at hmg
  have e := hmg.symm.trans hga
  cases e
  obtain ⟨y, hy⟩ : ∃ y, x.ps = [y] := by
    match hz : x.ps, hps with
    | [y], _ => exact ⟨y, rfl⟩
  refine law_call (CX := L2.CX l.prog w) (fd := fd) (x := y) (sp := spR K (L.cad K) (call L.prog n "law")) KX G.T.g G.T.b G.T.builtins G.T.nolimit hg hobj hints (Nat.le_trans hlen (by decide)) hr (fun base hb hbn => ?_) (fun s v => ?_) (fun H hO hS => ?_) fun H e s' h => ?_
  · have := (fnk (P0 := l.prog) (w0 := w) (base := base) st n "law" (He.ga K "law") x fd (by show (L.find "law").map (·.d) = _; rw [hx]; rfl) ok F).1
    rw [hy] at this
    exact this
  · have := bind_def ok F s [v] (by rw [hy]; rfl)
    rw [hy] at this
    exact this
  · obtain ⟨S, hS2⟩ := pure_ ns hlen
    refine ⟨fun _ => False, [], [.scr ns], [], ⟨List.nodup_nil, rfl, fun i c a h => (by cases h), fun a h => h.elim, fun a h => (by cases h), trivial⟩, .cons (.scr (scr_of hO hS)) .nil, ?_⟩
    rw [hS2]
    exact fun ι' v H' _ _ r => by cases r; rfl
  · obtain ⟨_, _, _, _, _, _, _, _, _, _, _, _, z⟩ := h
    exact z.elim
end E1

set_option maxHeartbeats 1000000
/-! E1: words for the plain laws. -/
namespace E1
open PySem (Str)
theorem whileW_step {f : Slots × Store → (Slots × Store) ⊕ RS} {p q : Slots × Store} (h : f p = .inl q) : whileW f p = whileW f q := by
  have key : ∀ n, iterW f (n + 1) p = iterW f n q := fun n => by
    show (match f p with | .inl q => iterW f n q | .inr r => some r) = _
    rw [h]
  have det : ∀ (n m : Nat) (p : Slots × Store) (a b : RS), iterW f n p = some a → iterW f m p = some b → a = b := by
    intro n
    induction n with
    | zero => intro m p a b h1; cases h1
    | succ n ih =>
      intro m p a b h1 h2
      cases m with
      | zero => cases h2
      | succ m =>
        unfold iterW at h1 h2
        cases hf : f p with
        | inl q => rw [hf] at h1 h2; exact ih m q a b h1 h2
        | inr r => rw [hf] at h1 h2; cases h1; cases h2; rfl
  unfold whileW
  by_cases hq : ∃ n, (iterW f n q).isSome
  · have hp : ∃ n, (iterW f n p).isSome := ⟨hq.choose + 1, by rw [key]; exact hq.choose_spec⟩
    rw [dif_pos hq, dif_pos hp]
    obtain ⟨a, ha⟩ := Option.isSome_iff_exists.mp hq.choose_spec
    obtain ⟨b, hb⟩ := Option.isSome_iff_exists.mp hp.choose_spec
    rw [ha, hb]
    have : iterW f (hq.choose + 1) p = some a := by rw [key]; exact ha
    exact det _ _ _ _ _ hb this
  · have hp : ¬ ∃ n, (iterW f n p).isSome := fun ⟨n, h⟩ => by
      cases n with
      | zero => cases h
      | succ n => exact hq ⟨n, by rw [← key]; exact h⟩
    rw [dif_neg hq, dif_neg hp]
theorem whileW_end {f : Slots × Store → (Slots × Store) ⊕ RS} {p : Slots × Store} {r : RS} (h : f p = .inr r) : whileW f p = r := by
  have key : ∀ n, iterW f (n + 1) p = some r := fun n => by
    show (match f p with | .inl q => iterW f n q | .inr r => some r) = _
    rw [h]
  have hp : ∃ n, (iterW f n p).isSome := ⟨1, by rw [key]; rfl⟩
  unfold whileW
  rw [dif_pos hp]
  cases e : hp.choose with
  | zero => have := hp.choose_spec; rw [e] at this; cases this
  | succ n => rw [key]; rfl
theorem forL_all {asg : D → Slots → Store → R Slots} {body : Slots → Store → RS} {ck : Option (Nat × List D)} {I : Slots → Store → Prop} (hs : ∀ σ S, I σ S → stands S ck) : ∀ {xs : List D} {σ : Slots} {S : Store}, I σ S →
    (∀ x ∈ xs, ∀ σ S, I σ S → ∃ σ1 S1, asg x σ S = .ok σ1 S1 ∧ ∃ σ2 S2, (body σ1 S1 = .nx σ2 S2 ∨ body σ1 S1 = .cnt σ2 S2) ∧ I σ2 S2) → ∃ σ' S', forL asg body ck xs σ S = .nx σ' S' ∧ I σ' S'
  | [], σ, S, h, _ => ⟨σ, S, by unfold forL; rw [if_pos (hs σ S h)], h⟩
  | x :: xs, σ, S, h, hb => by
    obtain ⟨σ1, S1, h1, σ2, S2, h2, h3⟩ := hb x (by simp) σ S h
    obtain ⟨σ', S', h4, h5⟩ := forL_all hs h3 fun y hy => hb y (List.mem_cons_of_mem _ hy)
    refine ⟨σ', S', ?_, h5⟩
    unfold forL
    rw [if_pos (hs σ S h), h1]
    rcases h2 with h2 | h2 <;> simp only [h2] <;> exact h4
theorem forL_nil {asg : D → Slots → Store → R Slots} {body : Slots → Store → RS} {ck : Option (Nat × List D)} {σ : Slots} {S : Store} (h : stands S ck) : forL asg body ck [] σ S = .nx σ S := by unfold forL; rw [if_pos h]
theorem forL_nx {asg : D → Slots → Store → R Slots} {body : Slots → Store → RS} {ck : Option (Nat × List D)} {x : D} {r : List D} {σ σ1 σ2 : Slots} {S S1 S2 : Store} (h : stands S ck) (h1 : asg x σ S = .ok σ1 S1) (h2 : body σ1 S1 = .nx σ2 S2) : forL asg body ck (x :: r) σ S = forL asg body ck r σ2 S2 := by
  conv => lhs; unfold forL
  rw [if_pos h, h1]; simp only [h2]
theorem forL_ret {asg : D → Slots → Store → R Slots} {body : Slots → Store → RS} {ck : Option (Nat × List D)} {x d : D} {r : List D} {σ σ1 σ2 : Slots} {S S1 S2 : Store} (h : stands S ck) (h1 : asg x σ S = .ok σ1 S1) (h2 : body σ1 S1 = .ret d σ2 S2) : forL asg body ck (x :: r) σ S = .ret d σ2 S2 := by
  unfold forL
  rw [if_pos h, h1]; simp only [h2]
theorem forL_idx {asg : D → Slots → Store → R Slots} {body : Slots → Store → RS} {ck : Option (Nat × List D)} {I : Nat → Slots → Store → Prop} (hs : ∀ i σ S, I i σ S → stands S ck) : ∀ {xs : List D} {k : Nat} {σ : Slots} {S : Store}, I k σ S →
    (∀ i x σ S, xs[i]? = some x → I (k + i) σ S → ∃ σ1 S1, asg x σ S = .ok σ1 S1 ∧ ∃ σ2 S2, (body σ1 S1 = .nx σ2 S2 ∨ body σ1 S1 = .cnt σ2 S2) ∧ I (k + i + 1) σ2 S2) → ∃ σ' S', forL asg body ck xs σ S = .nx σ' S' ∧ I (k + xs.length) σ' S'
  | [], k, σ, S, h, _ => ⟨σ, S, by unfold forL; rw [if_pos (hs k σ S h)], h⟩
  | x :: xs, k, σ, S, h, hb => by
    obtain ⟨σ1, S1, h1, σ2, S2, h2, h3⟩ := hb 0 x σ S rfl h
    obtain ⟨σ', S', h4, h5⟩ := forL_idx hs (k := k + 1) h3 fun i y σ S hy hI => by
      have := hb (i + 1) y σ S (by simpa using hy) (by rw [show k + (i + 1) = k + 1 + i by omega]; exact hI)
      rw [show k + (i + 1) = k + 1 + i by omega] at this
      exact this
    refine ⟨σ', S', ?_, by rw [show k + (x :: xs).length = k + 1 + xs.length by simp; omega]; exact h5⟩
    unfold forL
    rw [if_pos (hs k σ S h), h1]
    rcases h2 with h2 | h2 <;> simp only [h2] <;> exact h4
theorem log2_lt {n m : Nat} (h : n < 2 ^ m) (hm : 0 < m) : n.log2 < m := by
  by_cases h0 : n = 0
  · subst h0; simpa using hm
  · exact (Nat.log2_lt h0).mpr h
def Bd (k : Nat) (i : Int) : Prop := i.natAbs < 2 ^ k
theorem Bd.mono {k l : Nat} {i : Int} (h : Bd k i) (g : k ≤ l) : Bd l i := Nat.lt_of_lt_of_le h (Nat.pow_le_pow_right (by omega) g)
theorem Bd.mul {k l : Nat} {i j : Int} (h : Bd k i) (g : Bd l j) : Bd (k + l) (i * j) := by
  unfold Bd at *
  rw [Int.natAbs_mul, Nat.pow_add]
  exact Nat.mul_lt_mul'' h g
theorem Bd.add {k : Nat} {i j : Int} (h : Bd k i) (g : Bd k j) : Bd (k + 1) (i + j) := by
  unfold Bd at *
  rw [Nat.pow_succ]
  have := Int.natAbs_add_le i j
  omega
theorem Bd.sub {k : Nat} {i j : Int} (h : Bd k i) (g : Bd k j) : Bd (k + 1) (i - j) := by
  unfold Bd at *
  rw [Nat.pow_succ]
  have := Int.natAbs_sub_le i j
  omega
theorem Bd.neg {k : Nat} {i : Int} (h : Bd k i) : Bd k (-i) := by unfold Bd at *; rw [Int.natAbs_neg]; exact h
theorem Bd.abs {k : Nat} {i : Int} (h : Bd k i) : Bd k (if i < 0 then -i else i) := by split; exact h.neg; exact h
theorem Bd.le {k : Nat} {i j : Int} (h : Bd k j) (g : i.natAbs ≤ j.natAbs) : Bd k i := Nat.lt_of_le_of_lt g h
theorem Bd.nat {k : Nat} {i : Int} (h0 : 0 ≤ i) (h : i < 2 ^ k) : Bd k i := by
  unfold Bd
  have e : ((i.natAbs : Nat) : Int) < ((2 ^ k : Nat) : Int) := by rw [Int.natAbs_of_nonneg h0]; simpa using h
  exact Int.ofNat_lt.mp e
theorem mulOk_bd {k l : Nat} {i j : Int} (h : Bd k i) (g : Bd l j) (hk : k ≤ 400000) (hl : l ≤ 400000) : mulOk i j := by
  have h1 := log2_lt (h.mono (Nat.le_succ k)) (by omega)
  have h2 := log2_lt (g.mono (Nat.le_succ l)) (by omega)
  unfold mulOk
  omega
theorem divOk_bd {k : Nat} {j : Int} (h0 : 0 < j) (h : Bd k j) (hk : k ≤ 8000) : divOk j := ⟨h0, by have := log2_lt (h.mono (Nat.le_succ k)) (by omega); omega⟩
theorem exs_cons {C : Env} {s : St} {ss : Sts} {σ : Slots} {S : Store} : exs C (.cons s ss) σ S = (ex C s σ S).bind fun σ S => exs C ss σ S := by rw [exs]
theorem exs_nx {C : Env} {s : St} {ss : Sts} {σ σ' : Slots} {S S' : Store} (h : ex C s σ S = .nx σ' S') : exs C (.cons s ss) σ S = exs C ss σ' S' := by rw [exs, h]; rfl
theorem exs_nil {C : Env} {σ : Slots} {S : Store} : exs C .nil σ S = .nx σ S := by rw [exs]
def fin : RS → R D
  | .ret w _ S => .ok w S
  | .nx _ S => .ok .non S
  | .exc x _ S => .exc x S
  | _ => .no
theorem call_fin {P : Prog} {f : String} {np nn : Nat} {body : Sts} (h : P.fn f = some ⟨np, nn, body⟩) (n : Nat) (vs : List D) (S : Store) (hv : vs.length = np) (hn : np ≤ nn) :
    call P (n + 1) f vs S = fin (exs (envOf P n) body (vs.map some ++ List.replicate (nn - np) none) S) := by
  rw [call_succ P n f vs S _ h]
  unfold run
  rw [if_pos ⟨hv, hn⟩]
  rfl
theorem rb_self {S : Store} {d : D} (h : noref d = true) : rb S d = d := by
  cases d with
  | ref i => simp [noref] at h
  | _ => rfl
theorem rbs_self {S : Store} : ∀ {vs : List D}, norefs vs = true → vs.map (rb S) = vs
  | [], _ => rfl
  | v :: vs, h => by
    simp only [norefs, Bool.and_eq_true] at h
    rw [List.map_cons, rb_self h.1, rbs_self h.2]
theorem frz_self {k : Nat} {S : Store} {d : D} (h : noref d = true) : frz k S d = some d := by
  cases k with
  | zero => simp [frz, h]
  | succ k => simp [frz, h]
theorem bind_ok {α β : Type} {a : α} {S : Store} {f : α → Store → R β} : (R.ok a S).bind f = f a S := rfl
theorem bind_exc {α β : Type} {x : Exn} {S : Store} {f : α → Store → R β} : (R.exc x S).bind f = .exc x S := rfl
theorem st_ok {α : Type} {a : α} {S : Store} {σ : Slots} {f : α → Store → RS} : (R.ok a S).st σ f = f a S := rfl
theorem st_exc {α : Type} {x : Exn} {S : Store} {σ : Slots} {f : α → Store → RS} : (R.exc x S).st σ f = .exc x σ S := rfl
theorem bind_nx {σ : Slots} {S : Store} {f : Slots → Store → RS} : (RS.nx σ S).bind f = f σ S := rfl
theorem bind_ret {d : D} {σ : Slots} {S : Store} {f : Slots → Store → RS} : (RS.ret d σ S).bind f = .ret d σ S := rfl
theorem bind_brk {σ : Slots} {S : Store} {f : Slots → Store → RS} : (RS.brk σ S).bind f = .brk σ S := rfl
theorem bind_cnt {σ : Slots} {S : Store} {f : Slots → Store → RS} : (RS.cnt σ S).bind f = .cnt σ S := rfl
theorem bind_xc {x : Exn} {σ : Slots} {S : Store} {f : Slots → Store → RS} : (RS.exc x σ S).bind f = .exc x σ S := rfl
theorem fin_ret {d : D} {σ : Slots} {S : Store} : fin (.ret d σ S) = .ok d S := rfl
theorem fin_nx {σ : Slots} {S : Store} : fin (.nx σ S) = .ok .non S := rfl
theorem fin_exc {x : Exn} {σ : Slots} {S : Store} : fin (.exc x σ S) = .exc x S := rfl
theorem asE_some {α : Type} {a : α} {S : Store} : asE S (some a) = .ok a S := rfl
theorem asB_ok {b : Bool} {S : Store} : asB (.ok (.bl b) S) = .ok b S := rfl
theorem bop_add {i j : Int} {S : Store} : bop .add (.int i) (.int j) S = .ok (.int (i + j)) S := rfl
theorem bop_sub {i j : Int} {S : Store} : bop .sub (.int i) (.int j) S = .ok (.int (i - j)) S := rfl
theorem bop_mul {i j : Int} {S : Store} (h : mulOk i j) : bop .mul (.int i) (.int j) S = .ok (.int (i * j)) S := if_pos h
theorem bop_fdiv {i j : Int} {S : Store} (h : divOk j) : bop .fdiv (.int i) (.int j) S = .ok (.int (i / j)) S := if_pos h
theorem bop_mod {i j : Int} {S : Store} (h : 0 < j) : bop .mod (.int i) (.int j) S = .ok (.int (i % j)) S := if_pos h
theorem cop_lt {i j : Int} {S : Store} : cop .lt (.int i) (.int j) S = .ok (.bl (decide (i < j))) S := rfl
theorem cop_le {i j : Int} {S : Store} : cop .le (.int i) (.int j) S = .ok (.bl (decide (i ≤ j))) S := rfl
theorem cop_gt {i j : Int} {S : Store} : cop .gt (.int i) (.int j) S = .ok (.bl (decide (j < i))) S := rfl
theorem cop_ge {i j : Int} {S : Store} : cop .ge (.int i) (.int j) S = .ok (.bl (decide (j ≤ i))) S := rfl
theorem beq_int (i j : Int) : (i == j) = decide (i = j) := by by_cases h : i = j <;> simp [h]
theorem cop_eq {i j : Int} {S : Store} : cop .eq (.int i) (.int j) S = .ok (.bl (decide (i = j))) S := by rw [← beq_int]; rfl
theorem cop_ne {i j : Int} {S : Store} : cop .ne (.int i) (.int j) S = .ok (.bl (!decide (i = j))) S := by rw [← beq_int]; rfl
theorem cop_eqb {a b : Bool} {S : Store} : cop .eq (.bl a) (.bl b) S = .ok (.bl (a == b)) S := rfl
theorem cop_neb {a b : Bool} {S : Store} : cop .ne (.bl a) (.bl b) S = .ok (.bl (!(a == b))) S := rfl
theorem blt_abs {i : Int} {S : Store} : blt .abs [.int i] S = .ok (.int (if i < 0 then -i else i)) S := rfl
theorem blt_lenT {xs : List D} {S : Store} : blt .len [.tup xs] S = .ok (.int xs.length) S := rfl
theorem blt_lenL {xs : List D} {S : Store} : blt .len [.fl xs] S = .ok (.int xs.length) S := rfl
theorem ev_lit {C : Env} {d : D} {σ : Slots} {S : Store} (h : flat d = true) : ev C (.lit d) σ S = .ok d S := by rw [ev, if_pos h]
theorem ev_int {C : Env} {i : Int} {σ : Slots} {S : Store} : ev C (.lit (.int i)) σ S = .ok (.int i) S := ev_lit rfl
theorem ev_bl {C : Env} {i : Bool} {σ : Slots} {S : Store} : ev C (.lit (.bl i)) σ S = .ok (.bl i) S := ev_lit rfl
theorem ev_str {C : Env} {i : Str} {σ : Slots} {S : Store} : ev C (.lit (.str i)) σ S = .ok (.str i) S := ev_lit rfl
theorem ev_non {C : Env} {σ : Slots} {S : Store} : ev C (.lit .non) σ S = .ok .non S := ev_lit rfl
theorem asg_name {C : Env} {i : Nat} {d : D} {σ : Slots} {S : Store} (h : i < σ.length) : asg C (.name i) d σ S = .ok (σ.set i (some d)) S := by rw [asg, if_pos h]
theorem alloc_fl {xs : List D} {S : Store} (h : xs.length ≤ LINE) : alloc false xs S = .ok (.fl xs) S := by unfold alloc; rw [if_pos h]; rfl
theorem ev_tup {C : Env} {es : Exs} {σ : Slots} {S S1 : Store} {vs : List D} (h : evs C es σ S = .ok vs S1) (hl : vs.length ≤ LINE) : ev C (.tup es) σ S = .ok (.tup vs) S1 := by rw [ev, h]; show (if _ then _ else _) = _; rw [if_pos hl]
theorem ev_and {C : Env} {a b : Ex} {σ : Slots} {S S1 : Store} {p : Bool} (h : ev C a σ S = .ok (.bl p) S1) : ev C (.and a b) σ S = if p then ev C b σ S1 else .ok (.bl false) S1 := by rw [ev, h]; cases p <;> rfl
theorem ev_or {C : Env} {a b : Ex} {σ : Slots} {S S1 : Store} {p : Bool} (h : ev C a σ S = .ok (.bl p) S1) : ev C (.or a b) σ S = if p then .ok (.bl true) S1 else ev C b σ S1 := by rw [ev, h]; cases p <;> rfl
theorem ex_ite {C : Env} {c : Ex} {a b : Sts} {σ : Slots} {S S1 : Store} {p : Bool} (h : ev C c σ S = .ok (.bl p) S1) : ex C (.ite c a b) σ S = if p then exs C a σ S1 else exs C b σ S1 := by rw [ex, h]; cases p <;> rfl
theorem le_LINE {n : Nat} (h : n ≤ 16777216) : (n ≤ LINE) = True := eq_true h
theorem lLINE0 : (0 ≤ LINE) = True := le_LINE (by omega)
theorem lLINE1 : (1 ≤ LINE) = True := le_LINE (by omega)
theorem lLINE2 : (2 ≤ LINE) = True := le_LINE (by omega)
theorem lLINE3 : (3 ≤ LINE) = True := le_LINE (by omega)
theorem lLINE4 : (4 ≤ LINE) = True := le_LINE (by omega)
theorem lLINE5 : (5 ≤ LINE) = True := le_LINE (by omega)
theorem lLINE6 : (6 ≤ LINE) = True := le_LINE (by omega)
theorem lLINE7 : (7 ≤ LINE) = True := le_LINE (by omega)
theorem lLINE8 : (8 ≤ LINE) = True := le_LINE (by omega)
theorem sub_fl {xs : List D} {i : Int} {S : Store} : subF S (.fl xs) (.int i) = at? xs i := rfl
theorem sub_tp {xs : List D} {i : Int} {S : Store} : subF S (.tup xs) (.int i) = at? xs i := rfl
theorem at_ok {xs : List D} {i : Int} (h : 0 ≤ i) (g : i < xs.length) : ∃ d, at? xs i = some d ∧ d ∈ xs := by
  have hl : i.toNat < xs.length := by omega
  refine ⟨xs[i.toNat], ?_, List.getElem_mem hl⟩
  unfold at? ixN
  rw [if_pos h, if_pos g]
  exact List.getElem?_eq_getElem hl
theorem enumD_mem {x : D} : ∀ {xs : List D} {k : Nat}, x ∈ enumD k xs → ∃ i d, i < xs.length ∧ d ∈ xs ∧ x = .tup [.int ((k + i : Nat) : Int), d]
  | [], _, h => by cases h
  | y :: r, k, h => by
    simp only [enumD, List.mem_cons] at h
    rcases h with rfl | h
    · exact ⟨0, y, by simp, by simp, rfl⟩
    · obtain ⟨i, d, h1, h2, h3⟩ := enumD_mem h
      exact ⟨i + 1, d, by simpa using h1, by simp [h2], by rw [h3, Nat.add_assoc, Nat.add_comm 1 i]⟩
theorem cut_mem {α : Type} {xs : List α} {lo hi : Option Int} {x : α} (h : x ∈ cut xs lo hi) : x ∈ xs := List.mem_of_mem_drop (List.mem_of_mem_take h)
theorem cut_len {α : Type} {xs : List α} {lo hi : Option Int} : (cut xs lo hi).length ≤ xs.length := by
  unfold cut
  rw [List.length_take, List.length_drop]; omega
theorem seqOf_tup {xs : List D} {S : Store} : seqOf S (.tup xs) = some xs := rfl
theorem seqOf_fl {xs : List D} {S : Store} : seqOf S (.fl xs) = some xs := rfl
theorem ev_head {C : Env} {i : Nat} {k m : Int} {σ : Slots} {S : Store} {ns : List Int} (h : σ[i]? = some (some (.scr ns))) (hl : ns.length ≤ 63) :
    ∃ xs, ev C (.bin .add (.slc false (.var i) .no (.so (.lit (.int k)))) (.lst false (.cons (.lit (.int m)) .nil))) σ S = .ok (.fl xs) S ∧ xs.length ≤ 64 ∧ ∀ d ∈ xs, ∃ c, d = .int c := by
  have hc : (cut (ns.map D.int) none (some k)).length ≤ 63 := Nat.le_trans cut_len (by simpa using hl)
  refine ⟨cut (ns.map D.int) none (some k) ++ [.int m], ?_, by simp; omega, fun d hd => ?_⟩
  · have a1 : alloc false (cut (ns.map D.int) none (some k)) S = .ok (.fl (cut (ns.map D.int) none (some k))) S := alloc_fl (by show _ ≤ 16777216; omega)
    have e1 : ev C (.slc false (.var i) .no (.so (.lit (.int k)))) σ S = .ok (.fl (cut (ns.map D.int) none (some k))) S := by
      simp only [ev, evo, h, bind_ok, flat, if_true]
      exact a1
    have a2 : alloc false [D.int m] S = .ok (.fl [.int m]) S := alloc_fl (by show 1 ≤ 16777216; omega)
    have e2 : ev C (.lst false (.cons (.lit (.int m)) .nil)) σ S = .ok (.fl [.int m]) S := by
      simp only [ev, evs, bind_ok, flat, if_true]
      exact a2
    have a3 : bop .add (.fl (cut (ns.map D.int) none (some k))) (.fl [.int m]) S = .ok (.fl (cut (ns.map D.int) none (some k) ++ [.int m])) S := by
      have hz : (cut (ns.map D.int) none (some k)).length + [D.int m].length ≤ LINE := by show _ + 1 ≤ 16777216; omega
      show (if (cut (ns.map D.int) none (some k)).length + [D.int m].length ≤ LINE then alloc false _ S else R.no) = _
      rw [if_pos hz, alloc_fl (by rw [List.length_append]; exact hz)]
    rw [ev, e1, bind_ok, e2, bind_ok, a3]
  · rw [List.mem_append] at hd
    rcases hd with hd | hd
    · obtain ⟨c, _, rfl⟩ := List.mem_map.mp (cut_mem hd); exact ⟨c, rfl⟩
    · exact ⟨m, by simpa using hd⟩
theorem evi_enum {C : Env} {e : Ex} {σ : Slots} {S : Store} {xs : List D} (h : ev C e σ S = .ok (.fl xs) S) : evi C (.enum e) σ S = .ok (enumD 0 xs, none) S := by rw [evi, h]; rfl
def dropS : Nat → Sts → Sts
  | 0, ss => ss
  | n + 1, .cons _ ss => dropS n ss
  | _ + 1, .nil => .nil
def loop1 (d : Def) : Sts :=
  match d.body with
  | .cons (.for_ _ _ b) _ => b
  | .cons _ (.cons (.for_ _ _ b) _) => b
  | .cons _ (.cons _ (.cons (.for_ _ _ b) _)) => b
  | .cons _ (.cons _ (.cons _ (.cons (.for_ _ _ b) _))) => b
  | _ => .nil
theorem frzs_self {S : Store} : ∀ {ws : List D}, norefs ws = true → ws.mapM (frz 6 S) = some ws := by
  intro ws
  induction ws with
  | nil => intro _; rfl
  | cons w ws ih =>
    intro n
    simp only [norefs, Bool.and_eq_true] at n
    simp only [List.mapM_cons, frz_self n.1, ih n.2, Option.bind_eq_bind, Option.bind_some, Option.pure_def]
theorem frzCall_of {C : Env} {f : String} {vs : List D} {S S' : Store} {w : D} (hv : norefs vs = true) (h : C.call f vs [] = .ok w S') (hw : noref w = true) : frzCall C f vs S = .ok w S := by
  unfold frzCall
  rw [frzs_self hv]
  dsimp only
  rw [h]
  simp only [frz_self hw, hv, Bool.true_or, if_true]
theorem frzCall_ref {C : Env} {f : String} {vs ws : List D} {S S' : Store} {w : D} (hv : vs.mapM (frz 6 S) = some ws) (h : C.call f ws [] = .ok w S') (hf : flat w = true) (hw : noref w = true) : frzCall C f vs S = .ok w S := by
  unfold frzCall
  rw [hv]
  dsimp only
  rw [h]
  simp only [frz_self hw, hf, Bool.or_true, if_true]
end E1

set_option maxHeartbeats 1000000
namespace E1.Fr
open PySem (Str)
open E1
def N_common_part : List String := ["one", "other"]
def F_common_part : Def := ⟨2, 2, (.cons (.while_ (.cmp .ne (.var 1) (.lit (.int 0)))
  (.cons (.par 0 1 (.var 1) (.bin .mod (.var 0) (.var 1)))
  .nil))
  (.cons (.ret (.var 0))
  .nil))⟩
def N_made : List String := ["number", "parts", "by"]
def F_made : Def := ⟨2, 3, (.cons (.ite (.cmp .lt (.var 1) (.lit (.int 0)))
  (.cons (.par 0 1 (.neg (.var 0)) (.neg (.var 1)))
  .nil)
  .nil)
  (.cons (.asg (.name 2) (.call true "common_part" (.cons (.var 1) (.cons (.blt .abs (.cons (.var 0) .nil)) .nil))))
  (.cons (.ret (.tup (.cons (.bin .fdiv (.var 0) (.var 2)) (.cons (.bin .fdiv (.var 1) (.var 2)) .nil))))
  .nil)))⟩
def N_law_number : List String := ["_law_cell", "_law_k", "_law_one", "_law_form", "_law_size"]
def F_law_number : Def := ⟨2, 5, (.cons (.asg (.name 2) (.bin .mul (.bin .add (.bin .add (.bin .mod (.var 0) (.bin .pow (.lit (.int 10)) (.lit (.int 60)))) (.bin .mul (.lit (.int 7919)) (.var 1))) (.lit (.int 11))) (.bin .add (.bin .mul (.var 1) (.var 1)) (.lit (.int 48271)))))
  (.cons (.asg (.name 3) (.bin .mod (.bin .mod (.var 2) (.lit (.int 2147483647))) (.lit (.int 6))))
  (.cons (.ite (.cmp .eq (.var 3) (.lit (.int 0)))
  (.cons (.ret (.sub (.lst false (.cons (.lit (.int 0)) (.cons (.lit (.int 1)) (.cons (.neg (.lit (.int 1))) (.cons (.lit (.int 2)) (.cons (.lit (.int 12)) (.cons (.neg (.lit (.int 12))) (.cons (.bin .pow (.lit (.int 10)) (.lit (.int 40))) (.cons (.lit (.int 360)) .nil))))))))) (.bin .mod (.bin .fdiv (.var 2) (.lit (.int 7))) (.lit (.int 8)))))
  .nil)
  .nil)
  (.cons (.asg (.name 4) (.sub (.lst false (.cons (.lit (.int 9)) (.cons (.lit (.int 60)) (.cons (.bin .pow (.lit (.int 10)) (.lit (.int 6))) (.cons (.bin .pow (.lit (.int 10)) (.lit (.int 25))) (.cons (.bin .pow (.lit (.int 10)) (.lit (.int 45))) .nil)))))) (.bin .sub (.var 3) (.lit (.int 1)))))
  (.cons (.ret (.bin .sub (.bin .mod (.bin .fdiv (.var 2) (.lit (.int 11))) (.bin .add (.bin .mul (.lit (.int 2)) (.var 4)) (.lit (.int 1)))) (.var 4)))
  .nil)))))⟩
def N_law_whole : List String := ["_law_found"]
def F_law_whole : Def := ⟨1, 1, (.cons (.ret (.and (.isi (.var 0) ["int"]) (.not (.isi (.var 0) ["bool"]))))
  .nil)⟩
def N_law_divider : List String := ["_law_one", "_law_other", "_law_kept"]
def F_law_divider : Def := ⟨2, 3, (.cons (.while_ (.cmp .ne (.var 1) (.lit (.int 0)))
  (.cons (.asg (.name 2) (.bin .mod (.var 0) (.var 1)))
  (.cons (.asg (.name 0) (.var 1))
  (.cons (.asg (.name 1) (.var 2))
  .nil))))
  (.cons (.ret (.var 0))
  .nil))⟩
def N_law_is : List String := ["_law_found", "_law_number_here", "_law_parts"]
def F_law_is : Def := ⟨3, 3, (.cons (.ite (.or (.not (.isi (.var 0) ["tuple"])) (.or (.cmp .ne (.blt .len (.cons (.var 0) .nil)) (.lit (.int 2))) (.or (.not (.call true "_law_whole" (.cons (.sub (.var 0) (.lit (.int 0))) .nil))) (.not (.call true "_law_whole" (.cons (.sub (.var 0) (.lit (.int 1))) .nil))))))
  (.cons (.ret (.lit (.bl false)))
  .nil)
  .nil)
  (.cons (.ite (.or (.cmp .lt (.sub (.var 0) (.lit (.int 1))) (.lit (.int 1))) (.cmp .ne (.bin .mul (.sub (.var 0) (.lit (.int 0))) (.var 2)) (.bin .mul (.var 1) (.sub (.var 0) (.lit (.int 1))))))
  (.cons (.ret (.lit (.bl false)))
  .nil)
  .nil)
  (.cons (.ret (.cmp .eq (.call true "_law_divider" (.cons (.sub (.var 0) (.lit (.int 1))) (.cons (.blt .abs (.cons (.sub (.var 0) (.lit (.int 0))) .nil)) .nil))) (.lit (.int 1))))
  .nil)))⟩

structure Has (P : Prog) : Prop where
  cp : P.fn "common_part" = some F_common_part
  made : P.fn "made" = some F_made
structure HasL (P : Prog) : Prop where
  h : Has P
  num : P.fn "_law_number" = some F_law_number
  whole : P.fn "_law_whole" = some F_law_whole
  div : P.fn "_law_divider" = some F_law_divider
  is_ : P.fn "_law_is" = some F_law_is
  ii : P.isa "int" "int" = some true
  ib : P.isa "int" "bool" = some false
  tt : P.isa "tuple" "tuple" = some true
section
variable {P : Prog}
theorem cp_body (C : E1.Env) (S : Store) : ∀ (b a : Nat), whileW (turnW (fun σ S => asB (ev C (.cmp .ne (.var 1) (.lit (.int 0))) σ S)) (fun σ S => exs C (.cons (.par 0 1 (.var 1) (.bin .mod (.var 0) (.var 1))) .nil) σ S)) ([some (.int a), some (.int b)], S) = .nx [some (.int (Nat.gcd a b)), some (.int 0)] S := by
  intro b
  induction b using Nat.strongRecOn with
  | _ b ih =>
    intro a
    by_cases hb : b = 0
    · subst hb
      rw [whileW_end (r := .nx [some (.int a), some (.int 0)] S)]
      · simp
      · (unfold turnW; simp only [ev, evs, evo, evc, asg, asgs, exs_cons, exs_nil, ex, bind_ok, bind_exc, st_ok, st_exc, bind_nx, bind_ret, bind_brk, bind_cnt, bind_xc, fin_ret, fin_nx, fin_exc, asE_some, asB_ok, bop_add, bop_sub, bop_mul, bop_fdiv, bop_mod, cop_lt, cop_le, cop_gt, cop_ge, cop_eq, cop_ne, cop_eqb, cop_neb, blt_abs, blt_lenT, blt_lenL, flat, lLINE0, lLINE1, lLINE2, lLINE3, lLINE4, lLINE5, lLINE6, lLINE7, lLINE8, alloc, sub_fl, sub_tp, seqOf_tup, seqOf_fl, ↓ev_int, ↓ev_bl, ↓ev_str, ↓ev_non, List.getElem?_cons_zero, List.getElem?_cons_succ, List.set_cons_zero, List.set_cons_succ, List.length_cons, List.length_nil, List.map_cons, List.map_nil, List.replicate, List.nil_append, List.cons_append, List.append_nil, if_true, if_false, decide_true, decide_false, Bool.not_true, Bool.not_false, Bool.false_eq_true, Nat.reduceLT, Nat.reduceAdd, Nat.reduceSub, Nat.reduceLeDiff, Nat.zero_add, Nat.add_zero, Nat.sub_zero, Nat.lt_add_one, Nat.zero_lt_succ, and_true, and_self, true_and, ite_true, ite_false]; rfl)
    · have hlt : a % b < b := Nat.mod_lt _ (by omega)
      rw [whileW_step (q := ([some (.int b), some (.int (a % b : Nat))], S))]
      · rw [ih (a % b) hlt b, Nat.gcd_comm a b, Nat.gcd_rec b a, Nat.gcd_comm (a % b) b]
      · have h0 : (0 : Int) < b := by omega
        have h1 : ¬ ((b : Int) = 0) := by omega
        unfold turnW
        simp only [ev, evs, evo, evc, asg, asgs, exs_cons, exs_nil, ex, bind_ok, bind_exc, st_ok, st_exc, bind_nx, bind_ret, bind_brk, bind_cnt, bind_xc, fin_ret, fin_nx, fin_exc, asE_some, asB_ok, bop_add, bop_sub, bop_mul, bop_fdiv, bop_mod, cop_lt, cop_le, cop_gt, cop_ge, cop_eq, cop_ne, cop_eqb, cop_neb, blt_abs, blt_lenT, blt_lenL, flat, lLINE0, lLINE1, lLINE2, lLINE3, lLINE4, lLINE5, lLINE6, lLINE7, lLINE8, alloc, sub_fl, sub_tp, seqOf_tup, seqOf_fl, ↓ev_int, ↓ev_bl, ↓ev_str, ↓ev_non, List.getElem?_cons_zero, List.getElem?_cons_succ, List.set_cons_zero, List.set_cons_succ, List.length_cons, List.length_nil, List.map_cons, List.map_nil, List.replicate, List.nil_append, List.cons_append, List.append_nil, if_true, if_false, decide_true, decide_false, Bool.not_true, Bool.not_false, Bool.false_eq_true, Nat.reduceLT, Nat.reduceAdd, Nat.reduceSub, Nat.reduceLeDiff, Nat.zero_add, Nat.add_zero, Nat.sub_zero, Nat.lt_add_one, Nat.zero_lt_succ, and_true, and_self, true_and, ite_true, ite_false, h0, h1]
        rfl
theorem call_cp (hP : Has P) (n : Nat) (a b : Nat) (S : Store) : call P (n + 1) "common_part" [.int a, .int b] S = .ok (.int (Nat.gcd a b)) S := by
  rw [call_fin hP.cp n _ S rfl (by decide)]
  have h : ex (envOf P n) (.while_ (.cmp .ne (.var 1) (.lit (.int 0))) (.cons (.par 0 1 (.var 1) (.bin .mod (.var 0) (.var 1))) .nil)) [some (.int a), some (.int b)] S = .nx [some (.int (Nat.gcd a b)), some (.int 0)] S := by
    rw [ex]; exact cp_body (envOf P n) S b a
  show fin (exs _ _ [some (.int a), some (.int b)] S) = _
  rw [exs_nx h]
  simp [exs, ex, ev, fin]
def gg (i j : Int) : Nat := Nat.gcd j.natAbs i.natAbs
def nm (i j : Int) : Int := (if j < 0 then -i else i) / (gg i j : Int)
def pm (i j : Int) : Int := (j.natAbs : Int) / (gg i j : Int)
theorem gg_pos {i j : Int} (h : j ≠ 0) : 0 < gg i j := Nat.gcd_pos_of_pos_left _ (by omega)
theorem call_made (hP : Has P) (n : Nat) {i j : Int} (S : Store) (hj : j ≠ 0) (hs : Bd 4000 j) : call P (n + 2) "made" [.int i, .int j] S = .ok (.tup [.int (nm i j), .int (pm i j)]) S := by
  have hg : gg i j ≤ j.natAbs := Nat.gcd_le_left _ (by omega)
  have hp := gg_pos (i := i) hj
  have hd : divOk (gg i j : Int) := divOk_bd (by omega) (hs.le (by rw [Int.natAbs_natCast]; exact hg)) (by omega)
  have key : ∀ (a b : Int) (S : Store), 0 < b → Nat.gcd b.natAbs a.natAbs = gg i j → frzCall (envOf P (n + 1)) "common_part" [.int b, .int (if a < 0 then -a else a)] S = .ok (.int (gg i j)) S := by
    intro a b S hb hg
    refine frzCall_of (S' := []) rfl ?_ rfl
    have e1 : b = (b.natAbs : Int) := by omega
    have e2 : (if a < 0 then -a else a) = (a.natAbs : Int) := by split <;> omega
    rw [e2, ← hg]
    have := call_cp hP n b.natAbs a.natAbs []
    rw [← e1] at this
    exact this
  have hl : ∀ a b : D, [a, b].length ≤ LINE := fun _ _ => by show 2 ≤ 16777216; omega
  by_cases h0 : j < 0
  · have k := fun S => key (-i) (-j) S (by omega) (by simp [gg])
    have e : ((j.natAbs : Nat) : Int) = -j := by omega
    unfold nm pm
    rw [call_fin hP.made (n + 1) [.int i, .int j] S rfl (by decide), if_pos h0, e]
    simp only [ev, evs, evo, evc, asg, asgs, exs_cons, exs_nil, ex, bind_ok, bind_exc, st_ok, st_exc, bind_nx, bind_ret, bind_brk, bind_cnt, bind_xc, fin_ret, fin_nx, fin_exc, asE_some, asB_ok, bop_add, bop_sub, bop_mul, bop_fdiv, bop_mod, cop_lt, cop_le, cop_gt, cop_ge, cop_eq, cop_ne, cop_eqb, cop_neb, blt_abs, blt_lenT, blt_lenL, flat, lLINE0, lLINE1, lLINE2, lLINE3, lLINE4, lLINE5, lLINE6, lLINE7, lLINE8, alloc, sub_fl, sub_tp, seqOf_tup, seqOf_fl, ↓ev_int, ↓ev_bl, ↓ev_str, ↓ev_non, List.getElem?_cons_zero, List.getElem?_cons_succ, List.set_cons_zero, List.set_cons_succ, List.length_cons, List.length_nil, List.map_cons, List.map_nil, List.replicate, List.nil_append, List.cons_append, List.append_nil, if_true, if_false, decide_true, decide_false, Bool.not_true, Bool.not_false, Bool.false_eq_true, Nat.reduceLT, Nat.reduceAdd, Nat.reduceSub, Nat.reduceLeDiff, Nat.zero_add, Nat.add_zero, Nat.sub_zero, Nat.lt_add_one, Nat.zero_lt_succ, and_true, and_self, true_and, ite_true, ite_false, h0, k, hd]
  · have k := fun S => key i j S (by omega) rfl
    have e : ((j.natAbs : Nat) : Int) = j := by omega
    unfold nm pm
    rw [call_fin hP.made (n + 1) [.int i, .int j] S rfl (by decide), if_neg h0, e]
    simp only [ev, evs, evo, evc, asg, asgs, exs_cons, exs_nil, ex, bind_ok, bind_exc, st_ok, st_exc, bind_nx, bind_ret, bind_brk, bind_cnt, bind_xc, fin_ret, fin_nx, fin_exc, asE_some, asB_ok, bop_add, bop_sub, bop_mul, bop_fdiv, bop_mod, cop_lt, cop_le, cop_gt, cop_ge, cop_eq, cop_ne, cop_eqb, cop_neb, blt_abs, blt_lenT, blt_lenL, flat, lLINE0, lLINE1, lLINE2, lLINE3, lLINE4, lLINE5, lLINE6, lLINE7, lLINE8, alloc, sub_fl, sub_tp, seqOf_tup, seqOf_fl, ↓ev_int, ↓ev_bl, ↓ev_str, ↓ev_non, List.getElem?_cons_zero, List.getElem?_cons_succ, List.set_cons_zero, List.set_cons_succ, List.length_cons, List.length_nil, List.map_cons, List.map_nil, List.replicate, List.nil_append, List.cons_append, List.append_nil, if_true, if_false, decide_true, decide_false, Bool.not_true, Bool.not_false, Bool.false_eq_true, Nat.reduceLT, Nat.reduceAdd, Nat.reduceSub, Nat.reduceLeDiff, Nat.zero_add, Nat.add_zero, Nat.sub_zero, Nat.lt_add_one, Nat.zero_lt_succ, and_true, and_self, true_and, ite_true, ite_false, h0, k, hd]
theorem pw (j : Int) (S : Store) (h : 0 ≤ j ∧ j ≤ 1000) : bop .pow (.int 10) (.int j) S = .ok (.int (10 ^ j.toNat)) S := if_pos ⟨h.1, h.2, by decide⟩
theorem call_num1 (hn : P.fn "_law_number" = some F_law_number) (n : Nat) (c k : Int) (S : Store) (h0 : 0 ≤ k) (h1 : k ≤ 1000) : ∃ v, call P (n + 1) "_law_number" [.int c, .int k] S = .ok (.int v) S ∧ Bd 150 v := by
  have bk : Bd 10 k := Bd.nat h0 (by omega)
  have bc : Bd 200 (c % 10 ^ 60) := Bd.nat (Int.emod_nonneg _ (by decide)) (Int.lt_trans (Int.emod_lt_of_pos _ (by decide)) (by decide))
  have b7 : Bd 13 7919 := by unfold Bd; decide
  have m1 : mulOk 7919 k := mulOk_bd b7 bk (by omega) (by omega)
  have m2 : mulOk k k := mulOk_bd bk bk (by omega) (by omega)
  have x1 : Bd 202 (c % 10 ^ 60 + 7919 * k + 11) := (bc.add ((b7.mul bk).mono (by omega))).add (Bd.mono (k := 4) (by unfold Bd; decide) (by omega))
  have x2 : Bd 21 (k * k + 48271) := (bk.mul bk).add (Bd.mono (k := 16) (by unfold Bd; decide) (by omega))
  have m3 : mulOk (c % 10 ^ 60 + 7919 * k + 11) (k * k + 48271) := mulOk_bd x1 x2 (by omega) (by omega)
  rw [call_fin hn n [.int c, .int k] S rfl (by decide)]
  have p60 := fun S => pw 60 S (by decide)
  have e60 : ((60 : Int).toNat) = 60 := rfl
  have z60 : (0 : Int) < 10 ^ 60 := by decide
  rw [e60] at p60
  have z1 : (0 : Int) < 2147483647 := by decide
  have z2 : (0 : Int) < 6 := by decide
  simp only [ev, evs, evo, evc, asg, asgs, exs_cons, exs_nil, ex, bind_ok, bind_exc, st_ok, st_exc, bind_nx, bind_ret, bind_brk, bind_cnt, bind_xc, fin_ret, fin_nx, fin_exc, asE_some, asB_ok, bop_add, bop_sub, bop_mul, bop_fdiv, bop_mod, cop_lt, cop_le, cop_gt, cop_ge, cop_eq, cop_ne, cop_eqb, cop_neb, blt_abs, blt_lenT, blt_lenL, flat, lLINE0, lLINE1, lLINE2, lLINE3, lLINE4, lLINE5, lLINE6, lLINE7, lLINE8, alloc, sub_fl, sub_tp, seqOf_tup, seqOf_fl, ↓ev_int, ↓ev_bl, ↓ev_str, ↓ev_non, List.getElem?_cons_zero, List.getElem?_cons_succ, List.set_cons_zero, List.set_cons_succ, List.length_cons, List.length_nil, List.map_cons, List.map_nil, List.replicate, List.nil_append, List.cons_append, List.append_nil, if_true, if_false, decide_true, decide_false, Bool.not_true, Bool.not_false, Bool.false_eq_true, Nat.reduceLT, Nat.reduceAdd, Nat.reduceSub, Nat.reduceLeDiff, Nat.zero_add, Nat.add_zero, Nat.sub_zero, Nat.lt_add_one, Nat.zero_lt_succ, and_true, and_self, true_and, ite_true, ite_false, p60, z60, m1, m2, m3, z1, z2]
  generalize (c % 10 ^ 60 + 7919 * k + 11) * (k * k + 48271) = one
  by_cases hf : one % 2147483647 % 6 = 0
  · have p40 := fun S => pw 40 S (by decide)
    have e40 : ((40 : Int).toNat) = 40 := rfl
    rw [e40] at p40
    have d7 : divOk 7 := ⟨by decide, by decide⟩
    have z8 : (0 : Int) < 8 := by decide
    obtain ⟨d, hd, hm⟩ := at_ok (xs := [.int 0, .int 1, .int (-1), .int 2, .int 12, .int (-12), .int (10 ^ 40), .int 360]) (i := one / 7 % 8) (Int.emod_nonneg _ (by decide)) (Int.emod_lt_of_pos _ (by decide))
    simp only [ev, evs, evo, evc, asg, asgs, exs_cons, exs_nil, ex, bind_ok, bind_exc, st_ok, st_exc, bind_nx, bind_ret, bind_brk, bind_cnt, bind_xc, fin_ret, fin_nx, fin_exc, asE_some, asB_ok, bop_add, bop_sub, bop_mul, bop_fdiv, bop_mod, cop_lt, cop_le, cop_gt, cop_ge, cop_eq, cop_ne, cop_eqb, cop_neb, blt_abs, blt_lenT, blt_lenL, flat, lLINE0, lLINE1, lLINE2, lLINE3, lLINE4, lLINE5, lLINE6, lLINE7, lLINE8, alloc, sub_fl, sub_tp, seqOf_tup, seqOf_fl, ↓ev_int, ↓ev_bl, ↓ev_str, ↓ev_non, List.getElem?_cons_zero, List.getElem?_cons_succ, List.set_cons_zero, List.set_cons_succ, List.length_cons, List.length_nil, List.map_cons, List.map_nil, List.replicate, List.nil_append, List.cons_append, List.append_nil, if_true, if_false, decide_true, decide_false, Bool.not_true, Bool.not_false, Bool.false_eq_true, Nat.reduceLT, Nat.reduceAdd, Nat.reduceSub, Nat.reduceLeDiff, Nat.zero_add, Nat.add_zero, Nat.sub_zero, Nat.lt_add_one, Nat.zero_lt_succ, and_true, and_self, true_and, ite_true, ite_false, hf, p40, d7, z8, hd]
    simp only [List.mem_cons, List.not_mem_nil, or_false] at hm
    rcases hm with rfl | rfl | rfl | rfl | rfl | rfl | rfl | rfl <;> exact ⟨_, rfl, by unfold Bd; decide⟩
  · have p6 := fun S => pw 6 S (by decide)
    have p25 := fun S => pw 25 S (by decide)
    have p45 := fun S => pw 45 S (by decide)
    have e6 : ((6 : Int).toNat) = 6 := rfl
    have e25 : ((25 : Int).toNat) = 25 := rfl
    have e45 : ((45 : Int).toNat) = 45 := rfl
    rw [e6] at p6
    rw [e25] at p25
    rw [e45] at p45
    have l1 := Int.emod_nonneg (one % 2147483647) (b := 6) (by decide)
    have l2 := Int.emod_lt_of_pos (one % 2147483647) (b := 6) (by decide)
    obtain ⟨d, hd, hm⟩ := at_ok (xs := [.int 9, .int 60, .int (10 ^ 6), .int (10 ^ 25), .int (10 ^ 45)]) (i := one % 2147483647 % 6 - 1) (by omega) (by show _ < (5 : Int); omega)
    have d11 : divOk 11 := ⟨by decide, by decide⟩
    obtain ⟨v, rfl, hv, hv2⟩ : ∃ v, d = .int v ∧ 0 < v ∧ v ≤ 10 ^ 45 := by
      simp only [List.mem_cons, List.not_mem_nil, or_false] at hm
      rcases hm with rfl | rfl | rfl | rfl | rfl <;> exact ⟨_, rfl, by decide, by decide⟩
    have mv : mulOk 2 v := mulOk_bd (k := 2) (l := 150) (by unfold Bd; decide) (Bd.nat (by omega) (Int.lt_of_le_of_lt hv2 (by decide))) (by omega) (by omega)
    have zv : 0 < 2 * v + 1 := by omega
    simp only [ev, evs, evo, evc, asg, asgs, exs_cons, exs_nil, ex, bind_ok, bind_exc, st_ok, st_exc, bind_nx, bind_ret, bind_brk, bind_cnt, bind_xc, fin_ret, fin_nx, fin_exc, asE_some, asB_ok, bop_add, bop_sub, bop_mul, bop_fdiv, bop_mod, cop_lt, cop_le, cop_gt, cop_ge, cop_eq, cop_ne, cop_eqb, cop_neb, blt_abs, blt_lenT, blt_lenL, flat, lLINE0, lLINE1, lLINE2, lLINE3, lLINE4, lLINE5, lLINE6, lLINE7, lLINE8, alloc, sub_fl, sub_tp, seqOf_tup, seqOf_fl, ↓ev_int, ↓ev_bl, ↓ev_str, ↓ev_non, List.getElem?_cons_zero, List.getElem?_cons_succ, List.set_cons_zero, List.set_cons_succ, List.length_cons, List.length_nil, List.map_cons, List.map_nil, List.replicate, List.nil_append, List.cons_append, List.append_nil, if_true, if_false, decide_true, decide_false, Bool.not_true, Bool.not_false, Bool.false_eq_true, Nat.reduceLT, Nat.reduceAdd, Nat.reduceSub, Nat.reduceLeDiff, Nat.zero_add, Nat.add_zero, Nat.sub_zero, Nat.lt_add_one, Nat.zero_lt_succ, and_true, and_self, true_and, ite_true, ite_false, hf, p6, p25, p45, hd, d11, mv, zv]
    refine ⟨_, rfl, ?_⟩
    have q1 := Int.emod_nonneg (one / 11) (b := 2 * v + 1) (by omega)
    have q2 := Int.emod_lt_of_pos (one / 11) zv
    exact (Bd.nat (i := v) (k := 150) (by omega) (Int.lt_of_le_of_lt hv2 (by decide))).le (by omega)
theorem call_num (hP : HasL P) (n : Nat) (c k : Int) (S : Store) (h0 : 0 ≤ k) (h1 : k ≤ 1000) : ∃ v, call P (n + 1) "_law_number" [.int c, .int k] S = .ok (.int v) S ∧ Bd 150 v := call_num1 hP.num n c k S h0 h1
theorem isT_of {C : E1.Env} {S : Store} {d : D} {k t : String} {b : Bool} (h : kindOf S d = some k) (g : C.isa k t = some b) : isTs C S d [t] = some b := by
  simp [isTs, isT, h, g]
theorem call_whole (hw : P.fn "_law_whole" = some F_law_whole) (ii : P.isa "int" "int" = some true) (ib : P.isa "int" "bool" = some false) (n : Nat) (v : Int) (S : Store) : call P (n + 1) "_law_whole" [.int v] S = .ok (.bl true) S := by
  rw [call_fin hw n [.int v] S rfl (by decide)]
  have a1 : ∀ S, isTs (envOf P n) S (.int v) ["int"] = some true := fun S => isT_of (k := "int") rfl ii
  have a2 : ∀ S, isTs (envOf P n) S (.int v) ["bool"] = some false := fun S => isT_of (k := "int") rfl ib
  simp only [ev, evs, evo, evc, asg, asgs, exs_cons, exs_nil, ex, bind_ok, bind_exc, st_ok, st_exc, bind_nx, bind_ret, bind_brk, bind_cnt, bind_xc, fin_ret, fin_nx, fin_exc, asE_some, asB_ok, bop_add, bop_sub, bop_mul, bop_fdiv, bop_mod, cop_lt, cop_le, cop_gt, cop_ge, cop_eq, cop_ne, cop_eqb, cop_neb, blt_abs, blt_lenT, blt_lenL, flat, lLINE0, lLINE1, lLINE2, lLINE3, lLINE4, lLINE5, lLINE6, lLINE7, lLINE8, alloc, sub_fl, sub_tp, seqOf_tup, seqOf_fl, ↓ev_int, ↓ev_bl, ↓ev_str, ↓ev_non, List.getElem?_cons_zero, List.getElem?_cons_succ, List.set_cons_zero, List.set_cons_succ, List.length_cons, List.length_nil, List.map_cons, List.map_nil, List.replicate, List.nil_append, List.cons_append, List.append_nil, if_true, if_false, decide_true, decide_false, Bool.not_true, Bool.not_false, Bool.false_eq_true, Nat.reduceLT, Nat.reduceAdd, Nat.reduceSub, Nat.reduceLeDiff, Nat.zero_add, Nat.add_zero, Nat.sub_zero, Nat.lt_add_one, Nat.zero_lt_succ, and_true, and_self, true_and, ite_true, ite_false, a1, a2, Option.map_some]
theorem call_div (hd : P.fn "_law_divider" = some F_law_divider) (n : Nat) (a b : Nat) (S : Store) : call P (n + 1) "_law_divider" [.int a, .int b] S = .ok (.int (Nat.gcd a b)) S := by
  have key : ∀ (b a : Nat) (x : Option D), ∃ y, whileW (turnW (fun σ S => asB (ev (envOf P n) (.cmp .ne (.var 1) (.lit (.int 0))) σ S)) (fun σ S => exs (envOf P n) (.cons (.asg (.name 2) (.bin .mod (.var 0) (.var 1))) (.cons (.asg (.name 0) (.var 1)) (.cons (.asg (.name 1) (.var 2)) .nil))) σ S)) ([some (.int a), some (.int b), x], S) = .nx [some (.int (Nat.gcd a b)), some (.int 0), y] S := by
    intro b
    induction b using Nat.strongRecOn with
    | _ b ih =>
      intro a x
      by_cases hb : b = 0
      · subst hb
        refine ⟨x, ?_⟩
        rw [whileW_end (r := .nx [some (.int a), some (.int 0), x] S)]
        · simp
        · (unfold turnW; simp only [ev, evs, evo, evc, asg, asgs, exs_cons, exs_nil, ex, bind_ok, bind_exc, st_ok, st_exc, bind_nx, bind_ret, bind_brk, bind_cnt, bind_xc, fin_ret, fin_nx, fin_exc, asE_some, asB_ok, bop_add, bop_sub, bop_mul, bop_fdiv, bop_mod, cop_lt, cop_le, cop_gt, cop_ge, cop_eq, cop_ne, cop_eqb, cop_neb, blt_abs, blt_lenT, blt_lenL, flat, lLINE0, lLINE1, lLINE2, lLINE3, lLINE4, lLINE5, lLINE6, lLINE7, lLINE8, alloc, sub_fl, sub_tp, seqOf_tup, seqOf_fl, ↓ev_int, ↓ev_bl, ↓ev_str, ↓ev_non, List.getElem?_cons_zero, List.getElem?_cons_succ, List.set_cons_zero, List.set_cons_succ, List.length_cons, List.length_nil, List.map_cons, List.map_nil, List.replicate, List.nil_append, List.cons_append, List.append_nil, if_true, if_false, decide_true, decide_false, Bool.not_true, Bool.not_false, Bool.false_eq_true, Nat.reduceLT, Nat.reduceAdd, Nat.reduceSub, Nat.reduceLeDiff, Nat.zero_add, Nat.add_zero, Nat.sub_zero, Nat.lt_add_one, Nat.zero_lt_succ, and_true, and_self, true_and, ite_true, ite_false]; rfl)
      · have hlt : a % b < b := Nat.mod_lt _ (by omega)
        obtain ⟨y, hy⟩ := ih (a % b) hlt b (some (.int (a % b : Nat)))
        refine ⟨y, ?_⟩
        rw [whileW_step (q := ([some (.int b), some (.int (a % b : Nat)), some (.int (a % b : Nat))], S))]
        · rw [hy, Nat.gcd_comm a b, Nat.gcd_rec b a, Nat.gcd_comm (a % b) b]
        · have h0 : (0 : Int) < b := by omega
          have h1 : ¬ ((b : Int) = 0) := by omega
          unfold turnW
          simp only [ev, evs, evo, evc, asg, asgs, exs_cons, exs_nil, ex, bind_ok, bind_exc, st_ok, st_exc, bind_nx, bind_ret, bind_brk, bind_cnt, bind_xc, fin_ret, fin_nx, fin_exc, asE_some, asB_ok, bop_add, bop_sub, bop_mul, bop_fdiv, bop_mod, cop_lt, cop_le, cop_gt, cop_ge, cop_eq, cop_ne, cop_eqb, cop_neb, blt_abs, blt_lenT, blt_lenL, flat, lLINE0, lLINE1, lLINE2, lLINE3, lLINE4, lLINE5, lLINE6, lLINE7, lLINE8, alloc, sub_fl, sub_tp, seqOf_tup, seqOf_fl, ↓ev_int, ↓ev_bl, ↓ev_str, ↓ev_non, List.getElem?_cons_zero, List.getElem?_cons_succ, List.set_cons_zero, List.set_cons_succ, List.length_cons, List.length_nil, List.map_cons, List.map_nil, List.replicate, List.nil_append, List.cons_append, List.append_nil, if_true, if_false, decide_true, decide_false, Bool.not_true, Bool.not_false, Bool.false_eq_true, Nat.reduceLT, Nat.reduceAdd, Nat.reduceSub, Nat.reduceLeDiff, Nat.zero_add, Nat.add_zero, Nat.sub_zero, Nat.lt_add_one, Nat.zero_lt_succ, and_true, and_self, true_and, ite_true, ite_false, h0, h1]
          rfl
  obtain ⟨y, hy⟩ := key b a none
  have h : ex (envOf P n) (.while_ (.cmp .ne (.var 1) (.lit (.int 0))) (.cons (.asg (.name 2) (.bin .mod (.var 0) (.var 1))) (.cons (.asg (.name 0) (.var 1)) (.cons (.asg (.name 1) (.var 2)) .nil)))) [some (.int a), some (.int b), none] S = .nx [some (.int (Nat.gcd a b)), some (.int 0), y] S := by
    rw [ex]; exact hy
  rw [call_fin hd n [.int a, .int b] S rfl (by decide)]
  show fin (exs _ _ [some (.int a), some (.int b), none] S) = _
  rw [exs_nx h]
  simp only [ev, evs, evo, evc, asg, asgs, exs_cons, exs_nil, ex, bind_ok, bind_exc, st_ok, st_exc, bind_nx, bind_ret, bind_brk, bind_cnt, bind_xc, fin_ret, fin_nx, fin_exc, asE_some, asB_ok, bop_add, bop_sub, bop_mul, bop_fdiv, bop_mod, cop_lt, cop_le, cop_gt, cop_ge, cop_eq, cop_ne, cop_eqb, cop_neb, blt_abs, blt_lenT, blt_lenL, flat, lLINE0, lLINE1, lLINE2, lLINE3, lLINE4, lLINE5, lLINE6, lLINE7, lLINE8, alloc, sub_fl, sub_tp, seqOf_tup, seqOf_fl, ↓ev_int, ↓ev_bl, ↓ev_str, ↓ev_non, List.getElem?_cons_zero, List.getElem?_cons_succ, List.set_cons_zero, List.set_cons_succ, List.length_cons, List.length_nil, List.map_cons, List.map_nil, List.replicate, List.nil_append, List.cons_append, List.append_nil, if_true, if_false, decide_true, decide_false, Bool.not_true, Bool.not_false, Bool.false_eq_true, Nat.reduceLT, Nat.reduceAdd, Nat.reduceSub, Nat.reduceLeDiff, Nat.zero_add, Nat.add_zero, Nat.sub_zero, Nat.lt_add_one, Nat.zero_lt_succ, and_true, and_self, true_and, ite_true, ite_false]
theorem call_is (hP : HasL P) (n : Nat) {a b i j : Int} (S : Store) (hb : 1 ≤ b) (he : a * j = i * b) (hg : Nat.gcd b.natAbs a.natAbs = 1) (ba : Bd 1000 a) (bb : Bd 1000 b) (bi : Bd 1000 i) (bj : Bd 1000 j) :
    call P (n + 2) "_law_is" [.tup [.int a, .int b], .int i, .int j] S = .ok (.bl true) S := by
  rw [call_fin hP.is_ (n + 1) [.tup [.int a, .int b], .int i, .int j] S rfl (by decide)]
  have a1 : ∀ S, isTs (envOf P (n + 1)) S (.tup [.int a, .int b]) ["tuple"] = some true := fun S => isT_of (k := "tuple") rfl hP.tt
  have w : ∀ v S, frzCall (envOf P (n + 1)) "_law_whole" [.int v] S = .ok (.bl true) S := fun v S => frzCall_of (S' := []) rfl (call_whole hP.whole hP.ii hP.ib n v []) rfl
  have t0 : at? [D.int a, D.int b] 0 = some (.int a) := by rfl
  have t1 : at? [D.int a, D.int b] 1 = some (.int b) := by rfl
  have m1 : mulOk a j := mulOk_bd ba bj (by omega) (by omega)
  have m2 : mulOk i b := mulOk_bd bi bb (by omega) (by omega)
  have c1 : (((1 : Nat) + 1 : Nat) : Int) = 2 := rfl
  have c2 : ¬ b < 1 := by omega
  have dv : ∀ S, frzCall (envOf P (n + 1)) "_law_divider" [.int b, .int (if a < 0 then -a else a)] S = .ok (.int 1) S := fun S => by
    refine frzCall_of (S' := []) rfl ?_ rfl
    have e1 : b = (b.natAbs : Int) := by omega
    have e2 : (if a < 0 then -a else a) = (a.natAbs : Int) := by split <;> omega
    rw [e2]
    have := call_div hP.div n b.natAbs a.natAbs []
    rw [← e1, hg] at this
    exact this
  simp only [ev, evs, evo, evc, asg, asgs, exs_cons, exs_nil, ex, bind_ok, bind_exc, st_ok, st_exc, bind_nx, bind_ret, bind_brk, bind_cnt, bind_xc, fin_ret, fin_nx, fin_exc, asE_some, asB_ok, bop_add, bop_sub, bop_mul, bop_fdiv, bop_mod, cop_lt, cop_le, cop_gt, cop_ge, cop_eq, cop_ne, cop_eqb, cop_neb, blt_abs, blt_lenT, blt_lenL, flat, lLINE0, lLINE1, lLINE2, lLINE3, lLINE4, lLINE5, lLINE6, lLINE7, lLINE8, alloc, sub_fl, sub_tp, seqOf_tup, seqOf_fl, ↓ev_int, ↓ev_bl, ↓ev_str, ↓ev_non, List.getElem?_cons_zero, List.getElem?_cons_succ, List.set_cons_zero, List.set_cons_succ, List.length_cons, List.length_nil, List.map_cons, List.map_nil, List.replicate, List.nil_append, List.cons_append, List.append_nil, if_true, if_false, decide_true, decide_false, Bool.not_true, Bool.not_false, Bool.false_eq_true, Nat.reduceLT, Nat.reduceAdd, Nat.reduceSub, Nat.reduceLeDiff, Nat.zero_add, Nat.add_zero, Nat.sub_zero, Nat.lt_add_one, Nat.zero_lt_succ, and_true, and_self, true_and, ite_true, ite_false, a1, w, t0, t1, Option.map_some, m1, m2, c1, c2, he, dv]
theorem made_ok {i j : Int} (hj : j ≠ 0) : 1 ≤ pm i j ∧ nm i j * j = i * pm i j ∧ Nat.gcd (pm i j).natAbs (nm i j).natAbs = 1 ∧ (nm i j).natAbs ≤ i.natAbs ∧ (pm i j).natAbs ≤ j.natAbs := by
  have hp := gg_pos (i := i) hj
  have d1 : gg i j ∣ j.natAbs := Nat.gcd_dvd_left _ _
  have d2 : gg i j ∣ i.natAbs := Nat.gcd_dvd_right _ _
  have d1' : ((gg i j : Nat) : Int) ∣ j := Int.ofNat_dvd_left.mpr d1
  have d2' : ((gg i j : Nat) : Int) ∣ i := Int.ofNat_dvd_left.mpr d2
  obtain ⟨x, hx⟩ := d1'
  obtain ⟨y, hy⟩ := d2'
  have hg0 : ((gg i j : Nat) : Int) ≠ 0 := by omega
  have e1 : pm i j = (x.natAbs : Int) := by
    unfold pm
    have : j.natAbs = gg i j * x.natAbs := by rw [hx, Int.natAbs_mul, Int.natAbs_natCast, ← hx]
    rw [this]
    rw [Int.natCast_mul, Int.mul_ediv_cancel_left _ hg0]
  have xs : (x < 0 ↔ j < 0) ∧ x ≠ 0 := by
    have gp : (0 : Int) < (gg i j : Nat) := by omega
    generalize ((gg i j : Nat) : Int) = g at *
    refine ⟨⟨fun h => ?_, fun h => ?_⟩, fun h => ?_⟩
    · rw [hx]; exact Int.mul_neg_of_pos_of_neg gp h
    · rw [hx] at h
      by_cases z : x < 0
      · exact z
      · have := Int.mul_nonneg (Int.le_of_lt gp) (by omega : 0 ≤ x); omega
    · rw [h, Int.mul_zero] at hx; exact hj hx
  have e2 : nm i j = if j < 0 then -y else y := by
    unfold nm
    split
    · rw [show -i = ((gg i j : Nat) : Int) * -y by rw [Int.mul_neg, ← hy]]
      exact Int.mul_ediv_cancel_left _ hg0
    · exact Int.ediv_eq_of_eq_mul_right hg0 hy
  refine ⟨?_, ?_, ?_, ?_, ?_⟩
  · rw [e1]; have := xs.2; omega
  · rw [e1, e2]
    have hxx : j = ((gg i j : Nat) : Int) * x := hx
    have hyy : i = ((gg i j : Nat) : Int) * y := hy
    by_cases h : j < 0
    · have e : ((x.natAbs : Nat) : Int) = -x := by have := xs.1.mpr h; omega
      rw [if_pos h, e]
      calc -y * j = -y * (((gg i j : Nat) : Int) * x) := by rw [← hxx]
        _ = ((gg i j : Nat) : Int) * y * -x := by rw [Int.neg_mul, Int.mul_neg, Int.mul_left_comm, Int.mul_assoc]
        _ = i * -x := by rw [← hyy]
    · have e : ((x.natAbs : Nat) : Int) = x := by
        have : ¬ x < 0 := fun z => h (xs.1.mp z)
        omega
      rw [if_neg h, e]
      calc y * j = y * (((gg i j : Nat) : Int) * x) := by rw [← hxx]
        _ = ((gg i j : Nat) : Int) * y * x := by rw [Int.mul_left_comm, Int.mul_assoc]
        _ = i * x := by rw [← hyy]
  · have ex : (pm i j).natAbs = j.natAbs / gg i j := by
      unfold pm
      rw [← Int.natCast_ediv, Int.natAbs_natCast]
    have ey : (nm i j).natAbs = i.natAbs / gg i j := by
      have : i.natAbs = gg i j * y.natAbs := by rw [hy, Int.natAbs_mul, Int.natAbs_natCast, ← hy]
      rw [this, Nat.mul_div_cancel_left _ hp, e2]
      split
      · exact Int.natAbs_neg y
      · rfl
    rw [ex, ey]
    have := Nat.gcd_div d1 d2
    rw [this]; exact Nat.div_self hp
  · have : i.natAbs = gg i j * y.natAbs := by rw [hy, Int.natAbs_mul, Int.natAbs_natCast, ← hy]
    have e : (nm i j).natAbs = y.natAbs := by rw [e2]; split; exact Int.natAbs_neg y; rfl
    rw [e, this]; exact Nat.le_mul_of_pos_left _ hp
  · have : j.natAbs = gg i j * x.natAbs := by rw [hx, Int.natAbs_mul, Int.natAbs_natCast, ← hx]
    rw [e1, this, Int.natAbs_natCast]; exact Nat.le_mul_of_pos_left _ hp
end
end E1.Fr

set_option maxHeartbeats 1000000
namespace E1.Com
open PySem (Str)
open E1
def N_law_mix : List String := ["_law_cell", "_law_k", "_law_once"]
def F_law_mix : Def := ⟨2, 3, (.cons (.asg (.name 2) (.bin .mod (.bin .mul (.bin .add (.bin .add (.bin .mod (.var 0) (.bin .pow (.lit (.int 10)) (.lit (.int 30)))) (.bin .mul (.lit (.int 7919)) (.var 1))) (.lit (.int 11))) (.bin .add (.bin .mul (.var 1) (.var 1)) (.lit (.int 48271)))) (.lit (.int 2147483647))))
  (.cons (.ret (.bin .fdiv (.bin .mod (.bin .mul (.var 2) (.var 2)) (.lit (.int 2147483629))) (.lit (.int 3))))
  .nil))⟩
def N_law_wares : List String := ["_law_cell", "_law_letters", "_law_size", "_law_stem", "_law_k", "_law_place", "_law_sign"]
def F_law_wares : Def := ⟨1, 7, (.cons (.asg (.name 1) (.lit (.str "abcdefghijklmnopqrstuvwxyz")))
  (.cons (.asg (.name 2) (.bin .mod (.call true "_law_mix" (.cons (.var 0) (.cons (.lit (.int 1)) .nil))) (.lit (.int 8))))
  (.cons (.asg (.name 3) (.lit (.str "")))
  (.cons (.for_ (.name 4) (.rng (.cons (.lit (.int 8)) .nil))
  (.cons (.asg (.name 3) (.bin .add (.var 3) (.sub (.var 1) (.bin .mod (.call true "_law_mix" (.cons (.var 0) (.cons (.bin .add (.var 4) (.lit (.int 2))) .nil))) (.lit (.int 26))))))
  .nil))
  (.cons (.asg (.name 5) (.bin .mod (.call true "_law_mix" (.cons (.var 0) (.cons (.lit (.int 11)) .nil))) (.bin .add (.var 2) (.lit (.int 1)))))
  (.cons (.ite (.cmp .eq (.bin .mod (.call true "_law_mix" (.cons (.var 0) (.cons (.lit (.int 12)) .nil))) (.lit (.int 3))) (.lit (.int 0)))
  (.cons (.ret (.comp false (.slc false (.var 3) .no (.so (.bin .add (.bin .add (.var 4) (.lit (.int 1))) (.bin .mod (.call true "_law_mix" (.cons (.var 0) (.cons (.lit (.int 13)) .nil))) (.lit (.int 3)))))) (.name 4) (.rng (.cons (.lit (.int 6)) .nil)) .no [4]))
  .nil)
  .nil)
  (.cons (.ret (.comp false (.bin .add (.bin .add (.slc false (.var 3) .no (.so (.var 5))) (.var 6)) (.slc false (.var 3) (.so (.var 5)) (.so (.var 2)))) (.name 6) (.ex (.lit (.str "fbdace"))) .no [6]))
  .nil)))))))⟩
def N_law_five : List String := ["_law_cell", "_law_wares_here", "_law_most", "_law_rooms", "_law_k", "_law_rows", "_law_distance", "_law_half", "_law_thick", "_law_apart", "_law_p", "_law_q", "_law_one", "_law_pair", "_law_pig"]
def F_law_five : Def := ⟨3, 15, (.cons (.asg (.name 3) (.comp false (.bin .add (.lit (.int 1)) (.bin .mod (.call true "_law_mix" (.cons (.var 0) (.cons (.bin .add (.lit (.int 20)) (.var 4)) .nil))) (.var 2))) (.name 4) (.rng (.cons (.bin .add (.lit (.int 1)) (.bin .mod (.call true "_law_mix" (.cons (.var 0) (.cons (.lit (.int 19)) .nil))) (.lit (.int 4)))) .nil)) .no [4]))
  (.cons (.asg (.name 5) (.lst true .nil))
  (.cons (.asg (.name 6) (.lit (.int 0)))
  (.cons (.asg (.name 7) (.lit (.int 0)))
  (.cons (.for_ (.name 4) (.rng (.cons (.bin .mod (.call true "_law_mix" (.cons (.var 0) (.cons (.lit (.int 30)) .nil))) (.lit (.int 4))) .nil))
  (.cons (.asg (.name 6) (.bin .add (.bin .add (.var 6) (.lit (.int 1))) (.bin .mod (.call true "_law_mix" (.cons (.var 0) (.cons (.bin .add (.lit (.int 31)) (.var 4)) .nil))) (.bin .add (.bin .fdiv (.var 2) (.lit (.int 2))) (.lit (.int 2))))))
  (.cons (.asg (.name 7) (.bin .add (.var 7) (.bin .mul (.bin .mod (.call true "_law_mix" (.cons (.var 0) (.cons (.bin .add (.lit (.int 41)) (.var 4)) .nil))) (.lit (.int 3))) (.bin .mod (.call true "_law_mix" (.cons (.var 0) (.cons (.bin .add (.lit (.int 51)) (.var 4)) .nil))) (.bin .add (.bin .fdiv (.var 2) (.lit (.int 4))) (.lit (.int 2)))))))
  (.cons (.expr (.bm "append" false (.var 5) (.cons (.tup (.cons (.var 6) (.cons (.var 7) .nil))) .nil)))
  .nil))))
  (.cons (.asg (.name 8) (.lst true .nil))
  (.cons (.asg (.name 9) (.lst true .nil))
  (.cons (.for_ (.name 10) (.rng (.cons (.lit (.int 6)) .nil))
  (.cons (.for_ (.name 11) (.rng (.cons (.var 10) .nil))
  (.cons (.asg (.name 12) (.call true "_law_mix" (.cons (.var 0) (.cons (.bin .add (.bin .add (.lit (.int 60)) (.bin .mul (.lit (.int 6)) (.var 10))) (.var 11)) .nil))))
  (.cons (.asg (.name 13) (.sub (.lst false (.cons (.tup (.cons (.sub (.var 1) (.var 10)) (.cons (.sub (.var 1) (.var 11)) .nil))) (.cons (.tup (.cons (.sub (.var 1) (.var 11)) (.cons (.sub (.var 1) (.var 10)) .nil))) .nil))) (.bin .mod (.var 12) (.lit (.int 2)))))
  (.cons (.ite (.cmp .eq (.bin .mod (.bin .fdiv (.var 12) (.lit (.int 2))) (.lit (.int 3))) (.lit (.int 0)))
  (.cons (.expr (.bm "append" false (.var 8) (.cons (.bin .add (.var 13) (.tup (.cons (.bin .mod (.bin .fdiv (.var 12) (.lit (.int 6))) (.lit (.int 4))) .nil))) .nil)))
  .nil)
  .nil)
  (.cons (.ite (.cmp .eq (.bin .mod (.bin .fdiv (.var 12) (.lit (.int 24))) (.lit (.int 9))) (.lit (.int 0)))
  (.cons (.expr (.bm "append" false (.var 9) (.cons (.var 13) .nil)))
  .nil)
  .nil)
  .nil)))))
  .nil))
  (.cons (.asg (.name 14) (.tup (.cons (.bin .mod (.call true "_law_mix" (.cons (.var 0) (.cons (.lit (.int 100)) .nil))) (.lit (.int 5))) (.cons (.bin .add (.lit (.int 4)) (.bin .mod (.call true "_law_mix" (.cons (.var 0) (.cons (.lit (.int 101)) .nil))) (.lit (.int 3)))) .nil))))
  (.cons (.ret (.lst true (.cons (.var 3) (.cons (.var 5) (.cons (.var 8) (.cons (.var 9) (.cons (.var 14) .nil)))))))
  .nil))))))))))⟩

structure Has (P : Prog) : Prop where
  mix : P.fn "_law_mix" = some F_law_mix
  wares : P.fn "_law_wares" = some F_law_wares
  five : P.fn "_law_five" = some F_law_five
theorem compL_map {asg : D → Slots → Store → R Slots} {tst : Slots → Store → R Bool} {elt : Slots → Store → R D} {own : List Nat} {ck : Option (Nat × List D)} {σ : Slots} {S : Store} {Rl : D → D → Prop} (hs : stands S ck) (ht : ∀ σ, tst σ S = .ok true S) : ∀ {xs acc : List D}, xs.length + acc.length ≤ LINE →
    (∀ x ∈ xs, ∃ σ2 y, asg x (wipe σ own) S = .ok σ2 S ∧ elt σ2 S = .ok y S ∧ Rl x y) → ∃ ys, compL asg tst elt own ck σ xs acc S = .ok (acc ++ ys) S ∧ ys.length = xs.length ∧ (∀ (i : Nat) x y, xs[i]? = some x → ys[i]? = some y → Rl x y)
  | [], acc, _, _ => ⟨[], by unfold compL; rw [if_pos hs, List.append_nil], rfl, fun i x y h => by simp at h⟩
  | x :: xs, acc, hl, h => by
    obtain ⟨σ2, y, h1, h2, h3⟩ := h x (by simp)
    obtain ⟨ys, h4, h5, h6⟩ := compL_map (acc := acc ++ [y]) hs ht (by simp at hl ⊢; omega) fun z hz => h z (List.mem_cons_of_mem _ hz)
    refine ⟨y :: ys, ?_, by simp [h5], fun i a b ha hb => ?_⟩
    · unfold compL
      rw [if_pos ⟨hs, by simp at hl; omega⟩, h1]
      simp only [ht, h2]
      rw [h4, List.append_assoc]; rfl
    · cases i with
      | zero => simp at ha hb; subst ha; subst hb; exact h3
      | succ i => exact h6 i a b (by simpa using ha) (by simpa using hb)
section
variable {P : Prog}
theorem pw (i j : Int) (S : Store) (h : 0 ≤ j ∧ j ≤ 1000) (hi : i.natAbs < 2 ^ 64) : bop .pow (.int i) (.int j) S = .ok (.int (i ^ j.toNat)) S := if_pos ⟨h.1, h.2, hi⟩
theorem call_mix (hm : P.fn "_law_mix" = some F_law_mix) (n : Nat) (c k : Int) (S : Store) (h0 : 0 ≤ k) (h1 : k ≤ 4000) : ∃ v, call P (n + 1) "_law_mix" [.int c, .int k] S = .ok (.int v) S ∧ 0 ≤ v ∧ v < 2 ^ 31 := by
  have bk : Bd 12 k := Bd.nat h0 (by omega)
  have bc : Bd 100 (c % 10 ^ 30) := Bd.nat (Int.emod_nonneg _ (by decide)) (Int.lt_trans (Int.emod_lt_of_pos _ (by decide)) (by decide))
  have b7 : Bd 13 7919 := by unfold Bd; decide
  have m1 : mulOk 7919 k := mulOk_bd b7 bk (by omega) (by omega)
  have m2 : mulOk k k := mulOk_bd bk bk (by omega) (by omega)
  have x1 : Bd 102 (c % 10 ^ 30 + 7919 * k + 11) := (bc.add ((b7.mul bk).mono (by omega))).add (Bd.mono (k := 4) (by unfold Bd; decide) (by omega))
  have x2 : Bd 25 (k * k + 48271) := (bk.mul bk).add (Bd.mono (k := 16) (by unfold Bd; decide) (by omega))
  have m3 : mulOk (c % 10 ^ 30 + 7919 * k + 11) (k * k + 48271) := mulOk_bd x1 x2 (by omega) (by omega)
  rw [call_fin hm n [.int c, .int k] S rfl (by decide)]
  have p30 := fun S => pw 10 30 S (by decide) (by decide)
  have e30 : ((30 : Int).toNat) = 30 := rfl
  rw [e30] at p30
  have z30 : (0 : Int) < 10 ^ 30 := by decide
  have z1 : (0 : Int) < 2147483647 := by decide
  have z2 : (0 : Int) < 2147483629 := by decide
  have d3 : divOk 3 := ⟨by decide, by decide⟩
  have m4 : mulOk ((c % 10 ^ 30 + 7919 * k + 11) * (k * k + 48271) % 2147483647) ((c % 10 ^ 30 + 7919 * k + 11) * (k * k + 48271) % 2147483647) := by
    have b : Bd 31 ((c % 10 ^ 30 + 7919 * k + 11) * (k * k + 48271) % 2147483647) := Bd.nat (Int.emod_nonneg _ (by decide)) (Int.lt_trans (Int.emod_lt_of_pos _ z1) (by decide))
    exact mulOk_bd b b (by omega) (by omega)
  simp only [ev, evs, evo, evc, asg, asgs, exs_cons, exs_nil, ex, bind_ok, bind_exc, st_ok, st_exc, bind_nx, bind_ret, bind_brk, bind_cnt, bind_xc, fin_ret, fin_nx, fin_exc, asE_some, asB_ok, bop_add, bop_sub, bop_mul, bop_fdiv, bop_mod, cop_lt, cop_le, cop_gt, cop_ge, cop_eq, cop_ne, cop_eqb, cop_neb, blt_abs, blt_lenT, blt_lenL, flat, lLINE0, lLINE1, lLINE2, lLINE3, lLINE4, lLINE5, lLINE6, lLINE7, lLINE8, alloc, sub_fl, sub_tp, seqOf_tup, seqOf_fl, ↓ev_int, ↓ev_bl, ↓ev_str, ↓ev_non, List.getElem?_cons_zero, List.getElem?_cons_succ, List.set_cons_zero, List.set_cons_succ, List.length_cons, List.length_nil, List.map_cons, List.map_nil, List.replicate, List.nil_append, List.cons_append, List.append_nil, if_true, if_false, decide_true, decide_false, Bool.not_true, Bool.not_false, Bool.false_eq_true, Nat.reduceLT, Nat.reduceAdd, Nat.reduceSub, Nat.reduceLeDiff, Nat.zero_add, Nat.add_zero, Nat.sub_zero, Nat.lt_add_one, Nat.zero_lt_succ, and_true, and_self, true_and, ite_true, ite_false, p30, z30, m1, m2, m3, z1, z2, d3, m4]
  generalize (c % 10 ^ 30 + 7919 * k + 11) * (k * k + 48271) % 2147483647 = o
  have q1 := Int.emod_nonneg (o * o) (b := 2147483629) (by decide)
  have q2 := Int.emod_lt_of_pos (o * o) z2
  exact ⟨_, rfl, by omega, by omega⟩
theorem frz_mix (hm : P.fn "_law_mix" = some F_law_mix) (n : Nat) (c k : Int) (h0 : 0 ≤ k) (h1 : k ≤ 4000) : ∃ v, (∀ S, frzCall (envOf P (n + 1)) "_law_mix" [.int c, .int k] S = .ok (.int v) S) ∧ 0 ≤ v ∧ v < 2 ^ 31 := by
  obtain ⟨v, hv, b1, b2⟩ := call_mix hm n c k [] h0 h1
  exact ⟨v, fun S => frzCall_of (S' := []) rfl hv rfl, b1, b2⟩
theorem mod_in {v m : Int} (h : 0 < m) : 0 ≤ v % m ∧ v % m < m := ⟨Int.emod_nonneg _ (by omega), Int.emod_lt_of_pos _ h⟩
/-! ### texts -/
theorem bop_str {i j : Str} {S : Store} (h : i.length + j.length ≤ LINE) : bop .add (.str i) (.str j) S = .ok (.str (i ++ j)) S := if_pos h
theorem sub_str {x : Str} {i : Int} {S : Store} (h : x.length ≤ LINE) (h0 : 0 ≤ i) (h1 : i < x.length) : ∃ c, subF S (.str x) (.int i) = some (.str ⟨#[c]⟩) := by
  have hl : i.toNat < x.cps.size := by have : x.length = x.cps.size := rfl; omega
  refine ⟨x.cps[i.toNat], ?_⟩
  show (if x.length ≤ LINE then (strAt? x i).map D.str else none) = _
  rw [if_pos h]
  unfold strAt? ixN
  rw [if_pos h0, if_pos h1]
  show ((x.cps[i.toNat]?.map fun c => (⟨#[c]⟩ : Str)).map D.str) = _
  rw [Array.getElem?_eq_getElem hl]; rfl
theorem cat_len (x y : Str) : (x ++ y).length = x.length + y.length := by
  show (x.cps ++ y.cps).size = _
  rw [Array.size_append]; rfl
theorem cut_strlen {x : Str} {lo hi : Option Int} : (strCut x lo hi).length ≤ x.length := by
  show (cut x.cps.toList lo hi).toArray.size ≤ x.cps.size
  have := cut_len (xs := x.cps.toList) (lo := lo) (hi := hi)
  simpa using this
theorem small_of {n : Int} (h0 : 0 ≤ n) (h1 : n < 2 ^ 62) : small n := ⟨by omega, h1⟩
theorem evi_rng1 {C : E1.Env} {es : Exs} {σ : Slots} {S S1 : Store} {n : Int} (h : evs C es σ S = .ok [.int n] S1) (h0 : 0 ≤ n) (h1 : n < 2 ^ 62) : evi C (.rng es) σ S = .ok (rngD 0 1 n.toNat, none) S1 := by
  rw [evi, h, bind_ok]
  show asE S1 ((if small n then some (rngD 0 1 n.toNat) else none).map fun xs => (xs, none)) = _
  rw [if_pos (small_of h0 h1)]; rfl
theorem rng_get {n i : Nat} {y : D} (h : (rngD 0 1 n)[i]? = some y) : i < n ∧ y = .int (i : Int) := by
  obtain ⟨h1, h2⟩ := rngD_get h
  exact ⟨h1, by rw [h2]; simp⟩
theorem rng_mem {n : Nat} {y : D} (h : y ∈ rngD 0 1 n) : ∃ i : Nat, i < n ∧ y = .int (i : Int) := by
  obtain ⟨i, hi, e⟩ := List.mem_iff_getElem.mp h
  exact ⟨i, rng_get (by rw [List.getElem?_eq_getElem hi, e])⟩
theorem slc_str {C : E1.Env} {a : Ex} {lo hi : OEx} {σ : Slots} {S : Store} {x : Str} {l h : Option Int} (ha : ev C a σ S = .ok (.str x) S) (hl : evo C lo σ S = .ok l S) (hh : evo C hi σ S = .ok h S) (hx : x.length ≤ LINE) : ev C (.slc false a lo hi) σ S = .ok (.str (strCut x l h)) S := by
  rw [ev, ha, bind_ok, hl, bind_ok, hh, bind_ok]
  show (if x.length ≤ LINE then _ else _) = _
  rw [if_pos hx]
theorem ev_comp {C : E1.Env} {elt : Ex} {tg : Tg} {it : It} {own : List Nat} {σ : Slots} {S : Store} {xs : List D} {ck : Option (Nat × List D)} {Rl : D → D → Prop} (hi : evi C it σ S = .ok (xs, ck) S) (hs : stands S ck) (hl : xs.length ≤ LINE)
    (h : ∀ x ∈ xs, ∃ σ2 y, asg C tg x (wipe σ own) S = .ok σ2 S ∧ ev C elt σ2 S = .ok y S ∧ Rl x y) : ∃ ys, ev C (.comp false elt tg it .no own) σ S = .ok (.fl ys) S ∧ ys.length = xs.length ∧ (∀ (i : Nat) x y, xs[i]? = some x → ys[i]? = some y → Rl x y) := by
  obtain ⟨ys, h1, h2, h3⟩ := compL_map (asg := fun d σ S => asg C tg d σ S) (tst := fun σ S => evc C .no σ S) (elt := fun σ S => ev C elt σ S) (acc := []) hs (fun σ => by rw [evc]) (by simpa using hl) h
  refine ⟨ys, ?_, h2, h3⟩
  rw [ev, hi, bind_ok]
  dsimp only
  rw [h1, bind_ok, List.nil_append, alloc_fl (by rw [h2]; exact hl)]
theorem all_str : ∀ {ys : List D}, (∀ y ∈ ys, ∃ s : Str, y = .str s) → ∃ ws : List Str, ys = ws.map .str ∧ ws.length = ys.length
  | [], _ => ⟨[], rfl, rfl⟩
  | y :: ys, h => by
    obtain ⟨s, rfl⟩ := h y (by simp)
    obtain ⟨ws, h1, h2⟩ := all_str fun z hz => h z (List.mem_cons_of_mem _ hz)
    exact ⟨s :: ws, by rw [h1]; rfl, by simp [h2]⟩
theorem rel_mem {xs ys : List D} {Q : D → Prop} (hl : ys.length = xs.length) (h : ∀ (i : Nat) x y, xs[i]? = some x → ys[i]? = some y → Q y) : ∀ y ∈ ys, Q y := fun y hy => by
  obtain ⟨i, hi, e⟩ := List.mem_iff_getElem.mp hy
  exact h i xs[i] y (List.getElem?_eq_getElem (by omega)) (by rw [List.getElem?_eq_getElem hi, e])
theorem LINE_num : LINE = 16777216 := rfl
theorem call_wares (hP : Has P) (n : Nat) (c : Int) (S : Store) : ∃ ws : List Str, ws.length = 6 ∧ call P (n + 2) "_law_wares" [.int c] S = .ok (.fl (ws.map .str)) S := by
  have mix : ∀ k : Int, 0 ≤ k → k ≤ 4000 → ∃ v, (∀ S, frzCall (envOf P (n + 1)) "_law_mix" [.int c, .int k] S = .ok (.int v) S) ∧ 0 ≤ v ∧ v < 2 ^ 31 := fun k h0 h1 => frz_mix hP.mix n c k h0 h1
  rw [call_fin hP.wares (n + 1) [.int c] S rfl (by decide)]
  obtain ⟨v1, n1, a1, b1⟩ := mix 1 (by decide) (by decide)
  obtain ⟨v11, n11, a11, b11⟩ := mix 11 (by decide) (by decide)
  obtain ⟨v12, n12, a12, b12⟩ := mix 12 (by decide) (by decide)
  obtain ⟨v13, n13, a13, b13⟩ := mix 13 (by decide) (by decide)
  have z8 : (0 : Int) < 8 := by decide
  have z3 : (0 : Int) < 3 := by decide
  have z26 : (0 : Int) < 26 := by decide
  have q8 := mod_in (v := v1) z8
  have lt : ("abcdefghijklmnopqrstuvwxyz" : Str).length = 26 := by decide +kernel
  -- the stem
  have loop : ∃ σ' S', forL (fun d σ S => asg (envOf P (n + 1)) (.name 4) d σ S) (fun σ S => exs (envOf P (n + 1)) (.cons (.asg (.name 3) (.bin .add (.var 3) (.sub (.var 1) (.bin .mod (.call true "_law_mix" (.cons (.var 0) (.cons (.bin .add (.var 4) (.lit (.int 2))) .nil))) (.lit (.int 26)))))) .nil) σ S) none (rngD 0 1 8) [some (.int c), some (.str "abcdefghijklmnopqrstuvwxyz"), some (.int (v1 % 8)), some (.str ""), none, none, none] S = .nx σ' S' ∧
      (S' = S ∧ ∃ stem : Str, ∃ x, stem.length ≤ 100 ∧ σ' = [some (.int c), some (.str "abcdefghijklmnopqrstuvwxyz"), some (.int (v1 % 8)), some (.str stem), x, none, none]) := by
    obtain ⟨σ', S', h1, h2, stem, x, h3, h4⟩ := forL_idx (asg := fun d σ S => asg (envOf P (n + 1)) (.name 4) d σ S) (body := fun σ S => exs (envOf P (n + 1)) (.cons (.asg (.name 3) (.bin .add (.var 3) (.sub (.var 1) (.bin .mod (.call true "_law_mix" (.cons (.var 0) (.cons (.bin .add (.var 4) (.lit (.int 2))) .nil))) (.lit (.int 26)))))) .nil) σ S) (ck := none)
      (I := fun i σ S' => S' = S ∧ ∃ stem : Str, ∃ x, stem.length ≤ i ∧ σ = [some (.int c), some (.str "abcdefghijklmnopqrstuvwxyz"), some (.int (v1 % 8)), some (.str stem), x, none, none]) (fun _ _ _ _ => trivial) (xs := rngD 0 1 8) (k := 0) (σ := [some (.int c), some (.str "abcdefghijklmnopqrstuvwxyz"), some (.int (v1 % 8)), some (.str ""), none, none, none]) (S := S) ⟨rfl, "", none, Nat.le_refl _, rfl⟩ (by
        rintro i x σ S' hx ⟨rfl, stem, y, hl, rfl⟩
        obtain ⟨hi, rfl⟩ := rng_get hx
        obtain ⟨v, nv, av, bv⟩ := mix ((i : Int) + 2) (by omega) (by omega)
        have q := mod_in (v := v) z26
        obtain ⟨ch, hch⟩ := sub_str (x := "abcdefghijklmnopqrstuvwxyz") (i := v % 26) (S := S') (by rw [lt]; decide) q.1 (by rw [lt]; exact q.2)
        have hcat : stem.length + (⟨#[ch]⟩ : Str).length ≤ LINE := by show stem.length + 1 ≤ 16777216; omega
        refine ⟨[some (.int c), some (.str "abcdefghijklmnopqrstuvwxyz"), some (.int (v1 % 8)), some (.str stem), some (.int i), none, none], S', by simp only [ev, evs, evo, evc, asg, asgs, exs_cons, exs_nil, ex, bind_ok, bind_exc, st_ok, st_exc, bind_nx, bind_ret, bind_brk, bind_cnt, bind_xc, fin_ret, fin_nx, fin_exc, asE_some, asB_ok, bop_add, bop_sub, bop_mul, bop_fdiv, bop_mod, cop_lt, cop_le, cop_gt, cop_ge, cop_eq, cop_ne, cop_eqb, cop_neb, blt_abs, blt_lenT, blt_lenL, flat, lLINE0, lLINE1, lLINE2, lLINE3, lLINE4, lLINE5, lLINE6, lLINE7, lLINE8, alloc, sub_fl, sub_tp, seqOf_tup, seqOf_fl, ↓ev_int, ↓ev_bl, ↓ev_str, ↓ev_non, List.getElem?_cons_zero, List.getElem?_cons_succ, List.set_cons_zero, List.set_cons_succ, List.length_cons, List.length_nil, List.map_cons, List.map_nil, List.replicate, List.nil_append, List.cons_append, List.append_nil, if_true, if_false, decide_true, decide_false, Bool.not_true, Bool.not_false, Bool.false_eq_true, Nat.reduceLT, Nat.reduceAdd, Nat.reduceSub, Nat.reduceLeDiff, Nat.zero_add, Nat.add_zero, Nat.sub_zero, Nat.lt_add_one, Nat.zero_lt_succ, and_true, and_self, true_and, ite_true, ite_false], ?_⟩
        simp only [ev, evs, evo, evc, asg, asgs, exs_cons, exs_nil, ex, bind_ok, bind_exc, st_ok, st_exc, bind_nx, bind_ret, bind_brk, bind_cnt, bind_xc, fin_ret, fin_nx, fin_exc, asE_some, asB_ok, bop_add, bop_sub, bop_mul, bop_fdiv, bop_mod, cop_lt, cop_le, cop_gt, cop_ge, cop_eq, cop_ne, cop_eqb, cop_neb, blt_abs, blt_lenT, blt_lenL, flat, lLINE0, lLINE1, lLINE2, lLINE3, lLINE4, lLINE5, lLINE6, lLINE7, lLINE8, alloc, sub_fl, sub_tp, seqOf_tup, seqOf_fl, ↓ev_int, ↓ev_bl, ↓ev_str, ↓ev_non, List.getElem?_cons_zero, List.getElem?_cons_succ, List.set_cons_zero, List.set_cons_succ, List.length_cons, List.length_nil, List.map_cons, List.map_nil, List.replicate, List.nil_append, List.cons_append, List.append_nil, if_true, if_false, decide_true, decide_false, Bool.not_true, Bool.not_false, Bool.false_eq_true, Nat.reduceLT, Nat.reduceAdd, Nat.reduceSub, Nat.reduceLeDiff, Nat.zero_add, Nat.add_zero, Nat.sub_zero, Nat.lt_add_one, Nat.zero_lt_succ, and_true, and_self, true_and, ite_true, ite_false, nv, z26, hch, bop_str hcat]
        refine ⟨_, _, .inl rfl, rfl, stem ++ ⟨#[ch]⟩, _, ?_, rfl⟩
        rw [cat_len]
        show stem.length + 1 ≤ _
        omega)
    refine ⟨σ', S', h1, h2, stem, x, ?_, h4⟩
    rw [rngD_len] at h3
    omega
  obtain ⟨σ', S', hf, rfl, stem, x, hst, rfl⟩ := loop
  have q5 := mod_in (v := v11) (m := v1 % 8 + 1) (by omega)
  have zs : (0 : Int) < v1 % 8 + 1 := by omega
  have hf' : ex (envOf P (n + 1)) (.for_ (.name 4) (.rng (.cons (.lit (.int 8)) .nil)) (.cons (.asg (.name 3) (.bin .add (.var 3) (.sub (.var 1) (.bin .mod (.call true "_law_mix" (.cons (.var 0) (.cons (.bin .add (.var 4) (.lit (.int 2))) .nil))) (.lit (.int 26)))))) .nil)) [some (.int c), some (.str "abcdefghijklmnopqrstuvwxyz"), some (.int (v1 % 8)), some (.str ""), none, none, none] S' = .nx [some (.int c), some (.str "abcdefghijklmnopqrstuvwxyz"), some (.int (v1 % 8)), some (.str stem), x, none, none] S' := by
    rw [ex, evi_rng1 (n := 8) (S1 := S') (by simp only [ev, evs, evo, evc, asg, asgs, exs_cons, exs_nil, ex, bind_ok, bind_exc, st_ok, st_exc, bind_nx, bind_ret, bind_brk, bind_cnt, bind_xc, fin_ret, fin_nx, fin_exc, asE_some, asB_ok, bop_add, bop_sub, bop_mul, bop_fdiv, bop_mod, cop_lt, cop_le, cop_gt, cop_ge, cop_eq, cop_ne, cop_eqb, cop_neb, blt_abs, blt_lenT, blt_lenL, flat, lLINE0, lLINE1, lLINE2, lLINE3, lLINE4, lLINE5, lLINE6, lLINE7, lLINE8, alloc, sub_fl, sub_tp, seqOf_tup, seqOf_fl, ↓ev_int, ↓ev_bl, ↓ev_str, ↓ev_non, List.getElem?_cons_zero, List.getElem?_cons_succ, List.set_cons_zero, List.set_cons_succ, List.length_cons, List.length_nil, List.map_cons, List.map_nil, List.replicate, List.nil_append, List.cons_append, List.append_nil, if_true, if_false, decide_true, decide_false, Bool.not_true, Bool.not_false, Bool.false_eq_true, Nat.reduceLT, Nat.reduceAdd, Nat.reduceSub, Nat.reduceLeDiff, Nat.zero_add, Nat.add_zero, Nat.sub_zero, Nat.lt_add_one, Nat.zero_lt_succ, and_true, and_self, true_and, ite_true, ite_false]) (by decide) (by decide), st_ok]
    exact hf
  have pre : exs (envOf P (n + 1)) F_law_wares.body [some (.int c), none, none, none, none, none, none] S' = exs (envOf P (n + 1)) (dropS 5 F_law_wares.body) [some (.int c), some (.str "abcdefghijklmnopqrstuvwxyz"), some (.int (v1 % 8)), some (.str stem), x, some (.int (v11 % (v1 % 8 + 1))), none] S' := by
    refine (exs_nx (σ' := [some (.int c), some (.str "abcdefghijklmnopqrstuvwxyz"), none, none, none, none, none]) (S' := S') (by simp only [ev, evs, evo, evc, asg, asgs, exs_cons, exs_nil, ex, bind_ok, bind_exc, st_ok, st_exc, bind_nx, bind_ret, bind_brk, bind_cnt, bind_xc, fin_ret, fin_nx, fin_exc, asE_some, asB_ok, bop_add, bop_sub, bop_mul, bop_fdiv, bop_mod, cop_lt, cop_le, cop_gt, cop_ge, cop_eq, cop_ne, cop_eqb, cop_neb, blt_abs, blt_lenT, blt_lenL, flat, lLINE0, lLINE1, lLINE2, lLINE3, lLINE4, lLINE5, lLINE6, lLINE7, lLINE8, alloc, sub_fl, sub_tp, seqOf_tup, seqOf_fl, ↓ev_int, ↓ev_bl, ↓ev_str, ↓ev_non, List.getElem?_cons_zero, List.getElem?_cons_succ, List.set_cons_zero, List.set_cons_succ, List.length_cons, List.length_nil, List.map_cons, List.map_nil, List.replicate, List.nil_append, List.cons_append, List.append_nil, if_true, if_false, decide_true, decide_false, Bool.not_true, Bool.not_false, Bool.false_eq_true, Nat.reduceLT, Nat.reduceAdd, Nat.reduceSub, Nat.reduceLeDiff, Nat.zero_add, Nat.add_zero, Nat.sub_zero, Nat.lt_add_one, Nat.zero_lt_succ, and_true, and_self, true_and, ite_true, ite_false])).trans ?_
    refine (exs_nx (σ' := [some (.int c), some (.str "abcdefghijklmnopqrstuvwxyz"), some (.int (v1 % 8)), none, none, none, none]) (S' := S') (by simp only [ev, evs, evo, evc, asg, asgs, exs_cons, exs_nil, ex, bind_ok, bind_exc, st_ok, st_exc, bind_nx, bind_ret, bind_brk, bind_cnt, bind_xc, fin_ret, fin_nx, fin_exc, asE_some, asB_ok, bop_add, bop_sub, bop_mul, bop_fdiv, bop_mod, cop_lt, cop_le, cop_gt, cop_ge, cop_eq, cop_ne, cop_eqb, cop_neb, blt_abs, blt_lenT, blt_lenL, flat, lLINE0, lLINE1, lLINE2, lLINE3, lLINE4, lLINE5, lLINE6, lLINE7, lLINE8, alloc, sub_fl, sub_tp, seqOf_tup, seqOf_fl, ↓ev_int, ↓ev_bl, ↓ev_str, ↓ev_non, List.getElem?_cons_zero, List.getElem?_cons_succ, List.set_cons_zero, List.set_cons_succ, List.length_cons, List.length_nil, List.map_cons, List.map_nil, List.replicate, List.nil_append, List.cons_append, List.append_nil, if_true, if_false, decide_true, decide_false, Bool.not_true, Bool.not_false, Bool.false_eq_true, Nat.reduceLT, Nat.reduceAdd, Nat.reduceSub, Nat.reduceLeDiff, Nat.zero_add, Nat.add_zero, Nat.sub_zero, Nat.lt_add_one, Nat.zero_lt_succ, and_true, and_self, true_and, ite_true, ite_false, n1, z8])).trans ?_
    refine (exs_nx (σ' := [some (.int c), some (.str "abcdefghijklmnopqrstuvwxyz"), some (.int (v1 % 8)), some (.str ""), none, none, none]) (S' := S') (by simp only [ev, evs, evo, evc, asg, asgs, exs_cons, exs_nil, ex, bind_ok, bind_exc, st_ok, st_exc, bind_nx, bind_ret, bind_brk, bind_cnt, bind_xc, fin_ret, fin_nx, fin_exc, asE_some, asB_ok, bop_add, bop_sub, bop_mul, bop_fdiv, bop_mod, cop_lt, cop_le, cop_gt, cop_ge, cop_eq, cop_ne, cop_eqb, cop_neb, blt_abs, blt_lenT, blt_lenL, flat, lLINE0, lLINE1, lLINE2, lLINE3, lLINE4, lLINE5, lLINE6, lLINE7, lLINE8, alloc, sub_fl, sub_tp, seqOf_tup, seqOf_fl, ↓ev_int, ↓ev_bl, ↓ev_str, ↓ev_non, List.getElem?_cons_zero, List.getElem?_cons_succ, List.set_cons_zero, List.set_cons_succ, List.length_cons, List.length_nil, List.map_cons, List.map_nil, List.replicate, List.nil_append, List.cons_append, List.append_nil, if_true, if_false, decide_true, decide_false, Bool.not_true, Bool.not_false, Bool.false_eq_true, Nat.reduceLT, Nat.reduceAdd, Nat.reduceSub, Nat.reduceLeDiff, Nat.zero_add, Nat.add_zero, Nat.sub_zero, Nat.lt_add_one, Nat.zero_lt_succ, and_true, and_self, true_and, ite_true, ite_false])).trans ?_
    refine (exs_nx hf').trans ?_
    exact (exs_nx (σ' := [some (.int c), some (.str "abcdefghijklmnopqrstuvwxyz"), some (.int (v1 % 8)), some (.str stem), x, some (.int (v11 % (v1 % 8 + 1))), none]) (S' := S') (by simp only [ev, evs, evo, evc, asg, asgs, exs_cons, exs_nil, ex, bind_ok, bind_exc, st_ok, st_exc, bind_nx, bind_ret, bind_brk, bind_cnt, bind_xc, fin_ret, fin_nx, fin_exc, asE_some, asB_ok, bop_add, bop_sub, bop_mul, bop_fdiv, bop_mod, cop_lt, cop_le, cop_gt, cop_ge, cop_eq, cop_ne, cop_eqb, cop_neb, blt_abs, blt_lenT, blt_lenL, flat, lLINE0, lLINE1, lLINE2, lLINE3, lLINE4, lLINE5, lLINE6, lLINE7, lLINE8, alloc, sub_fl, sub_tp, seqOf_tup, seqOf_fl, ↓ev_int, ↓ev_bl, ↓ev_str, ↓ev_non, List.getElem?_cons_zero, List.getElem?_cons_succ, List.set_cons_zero, List.set_cons_succ, List.length_cons, List.length_nil, List.map_cons, List.map_nil, List.replicate, List.nil_append, List.cons_append, List.append_nil, if_true, if_false, decide_true, decide_false, Bool.not_true, Bool.not_false, Bool.false_eq_true, Nat.reduceLT, Nat.reduceAdd, Nat.reduceSub, Nat.reduceLeDiff, Nat.zero_add, Nat.add_zero, Nat.sub_zero, Nat.lt_add_one, Nat.zero_lt_succ, and_true, and_self, true_and, ite_true, ite_false, n11, zs]))
  have hL : stem.length ≤ LINE := by rw [LINE_num]; omega
  have fin_ : ∀ r, exs (envOf P (n + 1)) F_law_wares.body [some (.int c), none, none, none, none, none, none] S' = r → fin r = fin (exs (envOf P (n + 1)) F_law_wares.body [some (.int c), none, none, none, none, none, none] S') := fun r h => by rw [h]
  by_cases h3 : v12 % 3 = 0
  · obtain ⟨ys, e1, e2, e3⟩ := ev_comp (C := envOf P (n + 1)) (elt := .slc false (.var 3) .no (.so (.bin .add (.bin .add (.var 4) (.lit (.int 1))) (.bin .mod (.call true "_law_mix" (.cons (.var 0) (.cons (.lit (.int 13)) .nil))) (.lit (.int 3)))))) (tg := .name 4) (it := .rng (.cons (.lit (.int 6)) .nil)) (own := [4])
      (σ := [some (.int c), some (.str "abcdefghijklmnopqrstuvwxyz"), some (.int (v1 % 8)), some (.str stem), x, some (.int (v11 % (v1 % 8 + 1))), none]) (S := S') (Rl := fun _ y => ∃ s : Str, y = .str s) (evi_rng1 (n := 6) (S1 := S') (by simp only [ev, evs, evo, evc, asg, asgs, exs_cons, exs_nil, ex, bind_ok, bind_exc, st_ok, st_exc, bind_nx, bind_ret, bind_brk, bind_cnt, bind_xc, fin_ret, fin_nx, fin_exc, asE_some, asB_ok, bop_add, bop_sub, bop_mul, bop_fdiv, bop_mod, cop_lt, cop_le, cop_gt, cop_ge, cop_eq, cop_ne, cop_eqb, cop_neb, blt_abs, blt_lenT, blt_lenL, flat, lLINE0, lLINE1, lLINE2, lLINE3, lLINE4, lLINE5, lLINE6, lLINE7, lLINE8, alloc, sub_fl, sub_tp, seqOf_tup, seqOf_fl, ↓ev_int, ↓ev_bl, ↓ev_str, ↓ev_non, List.getElem?_cons_zero, List.getElem?_cons_succ, List.set_cons_zero, List.set_cons_succ, List.length_cons, List.length_nil, List.map_cons, List.map_nil, List.replicate, List.nil_append, List.cons_append, List.append_nil, if_true, if_false, decide_true, decide_false, Bool.not_true, Bool.not_false, Bool.false_eq_true, Nat.reduceLT, Nat.reduceAdd, Nat.reduceSub, Nat.reduceLeDiff, Nat.zero_add, Nat.add_zero, Nat.sub_zero, Nat.lt_add_one, Nat.zero_lt_succ, and_true, and_self, true_and, ite_true, ite_false]) (by decide) (by decide)) trivial (by rw [rngD_len]; decide) (by
        intro z hz
        obtain ⟨i, _, rfl⟩ := rng_mem hz
        refine ⟨_, .str (strCut stem none (some ((i : Int) + 1 + v13 % 3))), by rfl, ?_, _, rfl⟩
        exact slc_str (by simp only [ev, evs, evo, evc, asg, asgs, exs_cons, exs_nil, ex, bind_ok, bind_exc, st_ok, st_exc, bind_nx, bind_ret, bind_brk, bind_cnt, bind_xc, fin_ret, fin_nx, fin_exc, asE_some, asB_ok, bop_add, bop_sub, bop_mul, bop_fdiv, bop_mod, cop_lt, cop_le, cop_gt, cop_ge, cop_eq, cop_ne, cop_eqb, cop_neb, blt_abs, blt_lenT, blt_lenL, flat, lLINE0, lLINE1, lLINE2, lLINE3, lLINE4, lLINE5, lLINE6, lLINE7, lLINE8, alloc, sub_fl, sub_tp, seqOf_tup, seqOf_fl, ↓ev_int, ↓ev_bl, ↓ev_str, ↓ev_non, List.getElem?_cons_zero, List.getElem?_cons_succ, List.set_cons_zero, List.set_cons_succ, List.length_cons, List.length_nil, List.map_cons, List.map_nil, List.replicate, List.nil_append, List.cons_append, List.append_nil, if_true, if_false, decide_true, decide_false, Bool.not_true, Bool.not_false, Bool.false_eq_true, Nat.reduceLT, Nat.reduceAdd, Nat.reduceSub, Nat.reduceLeDiff, Nat.zero_add, Nat.add_zero, Nat.sub_zero, Nat.lt_add_one, Nat.zero_lt_succ, and_true, and_self, true_and, ite_true, ite_false, wipe]) (by rw [evo]) (by simp only [ev, evs, evo, evc, asg, asgs, exs_cons, exs_nil, ex, bind_ok, bind_exc, st_ok, st_exc, bind_nx, bind_ret, bind_brk, bind_cnt, bind_xc, fin_ret, fin_nx, fin_exc, asE_some, asB_ok, bop_add, bop_sub, bop_mul, bop_fdiv, bop_mod, cop_lt, cop_le, cop_gt, cop_ge, cop_eq, cop_ne, cop_eqb, cop_neb, blt_abs, blt_lenT, blt_lenL, flat, lLINE0, lLINE1, lLINE2, lLINE3, lLINE4, lLINE5, lLINE6, lLINE7, lLINE8, alloc, sub_fl, sub_tp, seqOf_tup, seqOf_fl, ↓ev_int, ↓ev_bl, ↓ev_str, ↓ev_non, List.getElem?_cons_zero, List.getElem?_cons_succ, List.set_cons_zero, List.set_cons_succ, List.length_cons, List.length_nil, List.map_cons, List.map_nil, List.replicate, List.nil_append, List.cons_append, List.append_nil, if_true, if_false, decide_true, decide_false, Bool.not_true, Bool.not_false, Bool.false_eq_true, Nat.reduceLT, Nat.reduceAdd, Nat.reduceSub, Nat.reduceLeDiff, Nat.zero_add, Nat.add_zero, Nat.sub_zero, Nat.lt_add_one, Nat.zero_lt_succ, and_true, and_self, true_and, ite_true, ite_false, wipe, n13, z3]) hL)
    obtain ⟨ws, rfl, hw⟩ := all_str (rel_mem e2 e3)
    refine ⟨ws, by rw [hw, e2, rngD_len]; rfl, ?_⟩
    show fin (exs (envOf P (n + 1)) F_law_wares.body [some (.int c), none, none, none, none, none, none] S') = _
    rw [pre]
    show fin (exs _ (.cons (.ite _ (.cons (.ret _) .nil) .nil) _) _ _) = _
    rw [exs_cons, ex_ite (p := true) (S1 := S') (by simp only [ev, evs, evo, evc, asg, asgs, exs_cons, exs_nil, ex, bind_ok, bind_exc, st_ok, st_exc, bind_nx, bind_ret, bind_brk, bind_cnt, bind_xc, fin_ret, fin_nx, fin_exc, asE_some, asB_ok, bop_add, bop_sub, bop_mul, bop_fdiv, bop_mod, cop_lt, cop_le, cop_gt, cop_ge, cop_eq, cop_ne, cop_eqb, cop_neb, blt_abs, blt_lenT, blt_lenL, flat, lLINE0, lLINE1, lLINE2, lLINE3, lLINE4, lLINE5, lLINE6, lLINE7, lLINE8, alloc, sub_fl, sub_tp, seqOf_tup, seqOf_fl, ↓ev_int, ↓ev_bl, ↓ev_str, ↓ev_non, List.getElem?_cons_zero, List.getElem?_cons_succ, List.set_cons_zero, List.set_cons_succ, List.length_cons, List.length_nil, List.map_cons, List.map_nil, List.replicate, List.nil_append, List.cons_append, List.append_nil, if_true, if_false, decide_true, decide_false, Bool.not_true, Bool.not_false, Bool.false_eq_true, Nat.reduceLT, Nat.reduceAdd, Nat.reduceSub, Nat.reduceLeDiff, Nat.zero_add, Nat.add_zero, Nat.sub_zero, Nat.lt_add_one, Nat.zero_lt_succ, and_true, and_self, true_and, ite_true, ite_false, n12, z3, h3])]
    simp only [if_true, exs_cons, ex, e1, st_ok, bind_ret, fin_ret]
  · obtain ⟨ys, e1, e2, e3⟩ := ev_comp (C := envOf P (n + 1)) (elt := .bin .add (.bin .add (.slc false (.var 3) .no (.so (.var 5))) (.var 6)) (.slc false (.var 3) (.so (.var 5)) (.so (.var 2)))) (tg := .name 6) (it := .ex (.lit (.str "fbdace"))) (own := [6])
      (σ := [some (.int c), some (.str "abcdefghijklmnopqrstuvwxyz"), some (.int (v1 % 8)), some (.str stem), x, some (.int (v11 % (v1 % 8 + 1))), none]) (S := S') (xs := signs "fbdace") (ck := none) (Rl := fun _ y => ∃ s : Str, y = .str s) (by rw [evi, ev_str, bind_ok]; rfl) trivial (by decide) (by
        intro z hz
        obtain ⟨ch, _, rfl⟩ := List.mem_map.mp hz
        have c1 := cut_strlen (x := stem) (lo := none) (hi := some (v11 % (v1 % 8 + 1)))
        have c2 := cut_strlen (x := stem) (lo := some (v11 % (v1 % 8 + 1))) (hi := some (v1 % 8))
        have s1 := slc_str (C := envOf P (n + 1)) (a := .var 3) (lo := .no) (hi := .so (.var 5)) (σ := [some (.int c), some (.str "abcdefghijklmnopqrstuvwxyz"), some (.int (v1 % 8)), some (.str stem), x, some (.int (v11 % (v1 % 8 + 1))), some (.str ⟨#[ch]⟩)]) (S := S') (x := stem) (l := none) (h := some (v11 % (v1 % 8 + 1))) (by simp only [ev, evs, evo, evc, asg, asgs, exs_cons, exs_nil, ex, bind_ok, bind_exc, st_ok, st_exc, bind_nx, bind_ret, bind_brk, bind_cnt, bind_xc, fin_ret, fin_nx, fin_exc, asE_some, asB_ok, bop_add, bop_sub, bop_mul, bop_fdiv, bop_mod, cop_lt, cop_le, cop_gt, cop_ge, cop_eq, cop_ne, cop_eqb, cop_neb, blt_abs, blt_lenT, blt_lenL, flat, lLINE0, lLINE1, lLINE2, lLINE3, lLINE4, lLINE5, lLINE6, lLINE7, lLINE8, alloc, sub_fl, sub_tp, seqOf_tup, seqOf_fl, ↓ev_int, ↓ev_bl, ↓ev_str, ↓ev_non, List.getElem?_cons_zero, List.getElem?_cons_succ, List.set_cons_zero, List.set_cons_succ, List.length_cons, List.length_nil, List.map_cons, List.map_nil, List.replicate, List.nil_append, List.cons_append, List.append_nil, if_true, if_false, decide_true, decide_false, Bool.not_true, Bool.not_false, Bool.false_eq_true, Nat.reduceLT, Nat.reduceAdd, Nat.reduceSub, Nat.reduceLeDiff, Nat.zero_add, Nat.add_zero, Nat.sub_zero, Nat.lt_add_one, Nat.zero_lt_succ, and_true, and_self, true_and, ite_true, ite_false]) (by rw [evo]) (by simp only [ev, evs, evo, evc, asg, asgs, exs_cons, exs_nil, ex, bind_ok, bind_exc, st_ok, st_exc, bind_nx, bind_ret, bind_brk, bind_cnt, bind_xc, fin_ret, fin_nx, fin_exc, asE_some, asB_ok, bop_add, bop_sub, bop_mul, bop_fdiv, bop_mod, cop_lt, cop_le, cop_gt, cop_ge, cop_eq, cop_ne, cop_eqb, cop_neb, blt_abs, blt_lenT, blt_lenL, flat, lLINE0, lLINE1, lLINE2, lLINE3, lLINE4, lLINE5, lLINE6, lLINE7, lLINE8, alloc, sub_fl, sub_tp, seqOf_tup, seqOf_fl, ↓ev_int, ↓ev_bl, ↓ev_str, ↓ev_non, List.getElem?_cons_zero, List.getElem?_cons_succ, List.set_cons_zero, List.set_cons_succ, List.length_cons, List.length_nil, List.map_cons, List.map_nil, List.replicate, List.nil_append, List.cons_append, List.append_nil, if_true, if_false, decide_true, decide_false, Bool.not_true, Bool.not_false, Bool.false_eq_true, Nat.reduceLT, Nat.reduceAdd, Nat.reduceSub, Nat.reduceLeDiff, Nat.zero_add, Nat.add_zero, Nat.sub_zero, Nat.lt_add_one, Nat.zero_lt_succ, and_true, and_self, true_and, ite_true, ite_false]) hL
        have s2 := slc_str (C := envOf P (n + 1)) (a := .var 3) (lo := .so (.var 5)) (hi := .so (.var 2)) (σ := [some (.int c), some (.str "abcdefghijklmnopqrstuvwxyz"), some (.int (v1 % 8)), some (.str stem), x, some (.int (v11 % (v1 % 8 + 1))), some (.str ⟨#[ch]⟩)]) (S := S') (x := stem) (l := some (v11 % (v1 % 8 + 1))) (h := some (v1 % 8)) (by simp only [ev, evs, evo, evc, asg, asgs, exs_cons, exs_nil, ex, bind_ok, bind_exc, st_ok, st_exc, bind_nx, bind_ret, bind_brk, bind_cnt, bind_xc, fin_ret, fin_nx, fin_exc, asE_some, asB_ok, bop_add, bop_sub, bop_mul, bop_fdiv, bop_mod, cop_lt, cop_le, cop_gt, cop_ge, cop_eq, cop_ne, cop_eqb, cop_neb, blt_abs, blt_lenT, blt_lenL, flat, lLINE0, lLINE1, lLINE2, lLINE3, lLINE4, lLINE5, lLINE6, lLINE7, lLINE8, alloc, sub_fl, sub_tp, seqOf_tup, seqOf_fl, ↓ev_int, ↓ev_bl, ↓ev_str, ↓ev_non, List.getElem?_cons_zero, List.getElem?_cons_succ, List.set_cons_zero, List.set_cons_succ, List.length_cons, List.length_nil, List.map_cons, List.map_nil, List.replicate, List.nil_append, List.cons_append, List.append_nil, if_true, if_false, decide_true, decide_false, Bool.not_true, Bool.not_false, Bool.false_eq_true, Nat.reduceLT, Nat.reduceAdd, Nat.reduceSub, Nat.reduceLeDiff, Nat.zero_add, Nat.add_zero, Nat.sub_zero, Nat.lt_add_one, Nat.zero_lt_succ, and_true, and_self, true_and, ite_true, ite_false]) (by simp only [ev, evs, evo, evc, asg, asgs, exs_cons, exs_nil, ex, bind_ok, bind_exc, st_ok, st_exc, bind_nx, bind_ret, bind_brk, bind_cnt, bind_xc, fin_ret, fin_nx, fin_exc, asE_some, asB_ok, bop_add, bop_sub, bop_mul, bop_fdiv, bop_mod, cop_lt, cop_le, cop_gt, cop_ge, cop_eq, cop_ne, cop_eqb, cop_neb, blt_abs, blt_lenT, blt_lenL, flat, lLINE0, lLINE1, lLINE2, lLINE3, lLINE4, lLINE5, lLINE6, lLINE7, lLINE8, alloc, sub_fl, sub_tp, seqOf_tup, seqOf_fl, ↓ev_int, ↓ev_bl, ↓ev_str, ↓ev_non, List.getElem?_cons_zero, List.getElem?_cons_succ, List.set_cons_zero, List.set_cons_succ, List.length_cons, List.length_nil, List.map_cons, List.map_nil, List.replicate, List.nil_append, List.cons_append, List.append_nil, if_true, if_false, decide_true, decide_false, Bool.not_true, Bool.not_false, Bool.false_eq_true, Nat.reduceLT, Nat.reduceAdd, Nat.reduceSub, Nat.reduceLeDiff, Nat.zero_add, Nat.add_zero, Nat.sub_zero, Nat.lt_add_one, Nat.zero_lt_succ, and_true, and_self, true_and, ite_true, ite_false]) (by simp only [ev, evs, evo, evc, asg, asgs, exs_cons, exs_nil, ex, bind_ok, bind_exc, st_ok, st_exc, bind_nx, bind_ret, bind_brk, bind_cnt, bind_xc, fin_ret, fin_nx, fin_exc, asE_some, asB_ok, bop_add, bop_sub, bop_mul, bop_fdiv, bop_mod, cop_lt, cop_le, cop_gt, cop_ge, cop_eq, cop_ne, cop_eqb, cop_neb, blt_abs, blt_lenT, blt_lenL, flat, lLINE0, lLINE1, lLINE2, lLINE3, lLINE4, lLINE5, lLINE6, lLINE7, lLINE8, alloc, sub_fl, sub_tp, seqOf_tup, seqOf_fl, ↓ev_int, ↓ev_bl, ↓ev_str, ↓ev_non, List.getElem?_cons_zero, List.getElem?_cons_succ, List.set_cons_zero, List.set_cons_succ, List.length_cons, List.length_nil, List.map_cons, List.map_nil, List.replicate, List.nil_append, List.cons_append, List.append_nil, if_true, if_false, decide_true, decide_false, Bool.not_true, Bool.not_false, Bool.false_eq_true, Nat.reduceLT, Nat.reduceAdd, Nat.reduceSub, Nat.reduceLeDiff, Nat.zero_add, Nat.add_zero, Nat.sub_zero, Nat.lt_add_one, Nat.zero_lt_succ, and_true, and_self, true_and, ite_true, ite_false]) hL
        have l1 : (⟨#[ch]⟩ : Str).length = 1 := rfl
        have b1 := bop_str (i := strCut stem none (some (v11 % (v1 % 8 + 1)))) (j := ⟨#[ch]⟩) (S := S') (by rw [l1, LINE_num]; omega)
        have b2 := bop_str (i := strCut stem none (some (v11 % (v1 % 8 + 1))) ++ ⟨#[ch]⟩) (j := strCut stem (some (v11 % (v1 % 8 + 1))) (some (v1 % 8))) (S := S') (by rw [cat_len, l1, LINE_num]; omega)
        refine ⟨[some (.int c), some (.str "abcdefghijklmnopqrstuvwxyz"), some (.int (v1 % 8)), some (.str stem), x, some (.int (v11 % (v1 % 8 + 1))), some (.str ⟨#[ch]⟩)], .str (strCut stem none (some (v11 % (v1 % 8 + 1))) ++ ⟨#[ch]⟩ ++ strCut stem (some (v11 % (v1 % 8 + 1))) (some (v1 % 8))), by rfl, ?_, _, rfl⟩
        rw [ev, ev, s1, bind_ok, show ev (envOf P (n + 1)) (.var 6) [some (.int c), some (.str "abcdefghijklmnopqrstuvwxyz"), some (.int (v1 % 8)), some (.str stem), x, some (.int (v11 % (v1 % 8 + 1))), some (.str ⟨#[ch]⟩)] S' = .ok (.str ⟨#[ch]⟩) S' from by simp only [ev, evs, evo, evc, asg, asgs, exs_cons, exs_nil, ex, bind_ok, bind_exc, st_ok, st_exc, bind_nx, bind_ret, bind_brk, bind_cnt, bind_xc, fin_ret, fin_nx, fin_exc, asE_some, asB_ok, bop_add, bop_sub, bop_mul, bop_fdiv, bop_mod, cop_lt, cop_le, cop_gt, cop_ge, cop_eq, cop_ne, cop_eqb, cop_neb, blt_abs, blt_lenT, blt_lenL, flat, lLINE0, lLINE1, lLINE2, lLINE3, lLINE4, lLINE5, lLINE6, lLINE7, lLINE8, alloc, sub_fl, sub_tp, seqOf_tup, seqOf_fl, ↓ev_int, ↓ev_bl, ↓ev_str, ↓ev_non, List.getElem?_cons_zero, List.getElem?_cons_succ, List.set_cons_zero, List.set_cons_succ, List.length_cons, List.length_nil, List.map_cons, List.map_nil, List.replicate, List.nil_append, List.cons_append, List.append_nil, if_true, if_false, decide_true, decide_false, Bool.not_true, Bool.not_false, Bool.false_eq_true, Nat.reduceLT, Nat.reduceAdd, Nat.reduceSub, Nat.reduceLeDiff, Nat.zero_add, Nat.add_zero, Nat.sub_zero, Nat.lt_add_one, Nat.zero_lt_succ, and_true, and_self, true_and, ite_true, ite_false], bind_ok, b1, bind_ok, s2, bind_ok, b2])
    obtain ⟨ws, rfl, hw⟩ := all_str (rel_mem e2 e3)
    refine ⟨ws, by rw [hw, e2]; rfl, ?_⟩
    show fin (exs (envOf P (n + 1)) F_law_wares.body [some (.int c), none, none, none, none, none, none] S') = _
    rw [pre]
    show fin (exs _ (.cons (.ite _ (.cons (.ret _) .nil) .nil) _) _ _) = _
    rw [exs_cons, ex_ite (p := false) (S1 := S') (by simp only [ev, evs, evo, evc, asg, asgs, exs_cons, exs_nil, ex, bind_ok, bind_exc, st_ok, st_exc, bind_nx, bind_ret, bind_brk, bind_cnt, bind_xc, fin_ret, fin_nx, fin_exc, asE_some, asB_ok, bop_add, bop_sub, bop_mul, bop_fdiv, bop_mod, cop_lt, cop_le, cop_gt, cop_ge, cop_eq, cop_ne, cop_eqb, cop_neb, blt_abs, blt_lenT, blt_lenL, flat, lLINE0, lLINE1, lLINE2, lLINE3, lLINE4, lLINE5, lLINE6, lLINE7, lLINE8, alloc, sub_fl, sub_tp, seqOf_tup, seqOf_fl, ↓ev_int, ↓ev_bl, ↓ev_str, ↓ev_non, List.getElem?_cons_zero, List.getElem?_cons_succ, List.set_cons_zero, List.set_cons_succ, List.length_cons, List.length_nil, List.map_cons, List.map_nil, List.replicate, List.nil_append, List.cons_append, List.append_nil, if_true, if_false, decide_true, decide_false, Bool.not_true, Bool.not_false, Bool.false_eq_true, Nat.reduceLT, Nat.reduceAdd, Nat.reduceSub, Nat.reduceLeDiff, Nat.zero_add, Nat.add_zero, Nat.sub_zero, Nat.lt_add_one, Nat.zero_lt_succ, and_true, and_self, true_and, ite_true, ite_false, n12, z3, h3])]
    simp only [Bool.false_eq_true, if_false, exs_nil, bind_nx, exs_cons, ex, e1, st_ok, bind_ret, fin_ret]
theorem ev_append {C : E1.Env} {b : Bool} {a e : Ex} {σ : Slots} {S : Store} {i : Nat} {xs : List D} {y : D} (ha : ev C a σ S = .ok (.ref i) S) (he : ev C e σ S = .ok y S) (hS : S[i]? = some (.lst xs)) (hl : xs.length < LINE) : ev C (.bm "append" b a (.cons e .nil)) σ S = .ok .non (S.set i (.lst (xs ++ [y]))) := by
  have hr : rb S (.ref i) = .fl xs := by simp only [rb, hS]
  rw [ev, ha, bind_ok, hr, if_pos (by simp [bmK]), evs, he, bind_ok, evs, bind_ok, bind_ok]
  show (match S[i]? with | some (.lst xs) => if xs.length < LINE then R.ok D.non (S.set i (.lst (xs ++ [y]))) else .no | _ => .no) = _
  rw [hS]
  show (if xs.length < LINE then R.ok D.non (S.set i (.lst (xs ++ [y]))) else .no) = _
  rw [if_pos hl]
theorem bop_tup {x y : D} {xs ys : List D} {S : Store} (h : (x :: xs).length + (y :: ys).length ≤ LINE) : bop .add (.tup (x :: xs)) (.tup (y :: ys)) S = .ok (.tup ((x :: xs) ++ (y :: ys))) S := if_pos h
def rowD (p : Int × Int) : D := .tup [.int p.1, .int p.2]
structure RowsOk (M : Int) (ps : List (Int × Int)) : Prop where
  inc : List.Pairwise (fun a b => a.1 < b.1) ((0, 0) :: ps)
  pos : ∀ p ∈ ps, 0 ≤ p.2 ∧ p.1 ≤ M ∧ p.2 ≤ M
theorem RowsOk.mono {M M' : Int} {ps : List (Int × Int)} (h : RowsOk M ps) (g : M ≤ M') : RowsOk M' ps := ⟨h.inc, fun p hp => by have := h.pos p hp; omega⟩
def ThickD (t : D) : Prop := ∃ (a b : Str) (m : Int), t = .tup [.str a, .str b, .int m] ∧ 0 ≤ m ∧ m < 4
def ApartD (t : D) : Prop := ∃ a b : Str, t = .tup [.str a, .str b]
theorem rows_add {M : Int} {ps : List (Int × Int)} {d e h : Int} (r : RowsOk M ps) (hd : ∀ p ∈ ps, p.1 ≤ d) (h0 : 0 ≤ d) (hde : d < e) (he : e ≤ M) (hh : 0 ≤ h) (hh2 : h ≤ M) : RowsOk M (ps ++ [(e, h)]) := by
  refine ⟨?_, fun p hp => ?_⟩
  · rw [← List.cons_append, List.pairwise_append]
    refine ⟨r.inc, List.pairwise_singleton _ _, fun a ha b hb => ?_⟩
    have e1 : b = (e, h) := by simpa using hb
    subst e1
    rcases List.mem_cons.mp ha with rfl | ha
    · show (0 : Int) < e; omega
    · have := hd a ha; show a.1 < e; omega
  · rcases List.mem_append.mp hp with hp | hp
    · exact r.pos p hp
    · have e1 : p = (e, h) := by simpa using hp
      subst e1
      exact ⟨hh, he, hh2⟩
def loopA : Sts := match F_law_five.body with
  | .cons _ (.cons _ (.cons _ (.cons _ (.cons (.for_ _ _ b) _)))) => b
  | _ => .nil
theorem rows_loop (hP : Has P) (n : Nat) (c most : Int) (w r : D) (m : Int) (h0 : 0 ≤ m) (h4 : m ≤ 4) (hm : 1 ≤ most) (hm2 : most ≤ 600000) : ∃ σ' S', forL (fun d σ S => asg (envOf P (n + 1)) (.name 4) d σ S) (fun σ S => exs (envOf P (n + 1)) loopA σ S) none (rngD 0 1 m.toNat) [some (.int c), some w, some (.int most), some r, none, some (.ref 0), some (.int 0), some (.int 0), none, none, none, none, none, none, none] [.lst []] = .nx σ' S' ∧
    ∃ (ps : List (Int × Int)) (k d h : D), RowsOk 5000000 ps ∧ ps.length ≤ 4 ∧ S' = [.lst (ps.map rowD)] ∧ ∃ k, σ' = [some (.int c), some w, some (.int most), some r, k, some (.ref 0), some d, some h, none, none, none, none, none, none, none] := by
  obtain ⟨σ', S', h1, ps, d, h, i1, i2, i3, i4, i5, i6, i7, k, i9⟩ := forL_idx (asg := fun d σ S => asg (envOf P (n + 1)) (.name 4) d σ S) (body := fun σ S => exs (envOf P (n + 1)) loopA σ S) (ck := none) (k := 0) (xs := rngD 0 1 m.toNat)
    (I := fun i σ S => ∃ (ps : List (Int × Int)) (d h : Int), RowsOk 5000000 ps ∧ ps.length = i ∧ (∀ p ∈ ps, p.1 ≤ d) ∧ 0 ≤ d ∧ d ≤ i * 320000 ∧ (0 ≤ h ∧ h ≤ i * 1000000) ∧ S = [.lst (ps.map rowD)] ∧ ∃ k, σ = [some (.int c), some w, some (.int most), some r, k, some (.ref 0), some (.int d), some (.int h), none, none, none, none, none, none, none])
    (fun _ _ _ _ => trivial) (σ := [some (.int c), some w, some (.int most), some r, none, some (.ref 0), some (.int 0), some (.int 0), none, none, none, none, none, none, none]) (S := [.lst []]) ⟨[], 0, 0, ⟨by simp, fun p hp => (by cases hp)⟩, rfl, fun p hp => (by cases hp), by decide, by decide, by decide, rfl, none, rfl⟩ (by
      rintro i x σ S hx ⟨ps, d, h, r1, r2, r3, r4, r5, r6, rfl, k, rfl⟩
      obtain ⟨hi, rfl⟩ := rng_get hx
      have hi4 : (i : Int) < 4 := by omega
      obtain ⟨v1, n1, a1, b1⟩ := frz_mix hP.mix n c (31 + (i : Int)) (by omega) (by omega)
      obtain ⟨v2, n2, a2, b2⟩ := frz_mix hP.mix n c (41 + (i : Int)) (by omega) (by omega)
      obtain ⟨v3, n3, a3, b3⟩ := frz_mix hP.mix n c (51 + (i : Int)) (by omega) (by omega)
      have d2 : divOk 2 := ⟨by decide, by decide⟩
      have d4 : divOk 4 := ⟨by decide, by decide⟩
      have z3 : (0 : Int) < 3 := by decide
      have p2 : 0 < most / 2 + 2 := by omega
      have p4 : 0 < most / 4 + 2 := by omega
      have q1 := mod_in (v := v1) p2
      have q2 := mod_in (v := v2) z3
      have q3 := mod_in (v := v3) p4
      have mo : mulOk (v2 % 3) (v3 % (most / 4 + 2)) := mulOk_bd (k := 2) (l := 20) (Bd.nat q2.1 (by omega)) (Bd.nat q3.1 (by omega)) (by omega) (by omega)
      have q4 : 0 ≤ v2 % 3 * (v3 % (most / 4 + 2)) := Int.mul_nonneg q2.1 q3.1
      have q5 : v2 % 3 * (v3 % (most / 4 + 2)) ≤ 2 * (v3 % (most / 4 + 2)) := Int.mul_le_mul_of_nonneg_right (by omega) q3.1
      refine ⟨[some (.int c), some w, some (.int most), some r, some (.int i), some (.ref 0), some (.int d), some (.int h), none, none, none, none, none, none, none], [.lst (ps.map rowD)], by simp only [ev, evs, evo, evc, asg, asgs, exs_cons, exs_nil, ex, bind_ok, bind_exc, st_ok, st_exc, bind_nx, bind_ret, bind_brk, bind_cnt, bind_xc, fin_ret, fin_nx, fin_exc, asE_some, asB_ok, bop_add, bop_sub, bop_mul, bop_fdiv, bop_mod, cop_lt, cop_le, cop_gt, cop_ge, cop_eq, cop_ne, cop_eqb, cop_neb, blt_abs, blt_lenT, blt_lenL, flat, lLINE0, lLINE1, lLINE2, lLINE3, lLINE4, lLINE5, lLINE6, lLINE7, lLINE8, alloc, sub_fl, sub_tp, seqOf_tup, seqOf_fl, ↓ev_int, ↓ev_bl, ↓ev_str, ↓ev_non, List.getElem?_cons_zero, List.getElem?_cons_succ, List.set_cons_zero, List.set_cons_succ, List.length_cons, List.length_nil, List.map_cons, List.map_nil, List.replicate, List.nil_append, List.cons_append, List.append_nil, if_true, if_false, decide_true, decide_false, Bool.not_true, Bool.not_false, Bool.false_eq_true, Nat.reduceLT, Nat.reduceAdd, Nat.reduceSub, Nat.reduceLeDiff, Nat.zero_add, Nat.add_zero, Nat.sub_zero, Nat.lt_add_one, Nat.zero_lt_succ, and_true, and_self, true_and, ite_true, ite_false], ?_⟩
      have ap := ev_append (C := envOf P (n + 1)) (b := false) (a := .var 5) (e := .tup (.cons (.var 6) (.cons (.var 7) .nil))) (σ := [some (.int c), some w, some (.int most), some r, some (.int i), some (.ref 0), some (.int (d + 1 + v1 % (most / 2 + 2))), some (.int (h + v2 % 3 * (v3 % (most / 4 + 2)))), none, none, none, none, none, none, none]) (S := [.lst (ps.map rowD)]) (i := 0) (xs := ps.map rowD) (y := rowD (d + 1 + v1 % (most / 2 + 2), h + v2 % 3 * (v3 % (most / 4 + 2)))) (by simp only [ev, evs, evo, evc, asg, asgs, exs_cons, exs_nil, ex, bind_ok, bind_exc, st_ok, st_exc, bind_nx, bind_ret, bind_brk, bind_cnt, bind_xc, fin_ret, fin_nx, fin_exc, asE_some, asB_ok, bop_add, bop_sub, bop_mul, bop_fdiv, bop_mod, cop_lt, cop_le, cop_gt, cop_ge, cop_eq, cop_ne, cop_eqb, cop_neb, blt_abs, blt_lenT, blt_lenL, flat, lLINE0, lLINE1, lLINE2, lLINE3, lLINE4, lLINE5, lLINE6, lLINE7, lLINE8, alloc, sub_fl, sub_tp, seqOf_tup, seqOf_fl, ↓ev_int, ↓ev_bl, ↓ev_str, ↓ev_non, List.getElem?_cons_zero, List.getElem?_cons_succ, List.set_cons_zero, List.set_cons_succ, List.length_cons, List.length_nil, List.map_cons, List.map_nil, List.replicate, List.nil_append, List.cons_append, List.append_nil, if_true, if_false, decide_true, decide_false, Bool.not_true, Bool.not_false, Bool.false_eq_true, Nat.reduceLT, Nat.reduceAdd, Nat.reduceSub, Nat.reduceLeDiff, Nat.zero_add, Nat.add_zero, Nat.sub_zero, Nat.lt_add_one, Nat.zero_lt_succ, and_true, and_self, true_and, ite_true, ite_false]) (by simp only [ev, evs, evo, evc, asg, asgs, exs_cons, exs_nil, ex, bind_ok, bind_exc, st_ok, st_exc, bind_nx, bind_ret, bind_brk, bind_cnt, bind_xc, fin_ret, fin_nx, fin_exc, asE_some, asB_ok, bop_add, bop_sub, bop_mul, bop_fdiv, bop_mod, cop_lt, cop_le, cop_gt, cop_ge, cop_eq, cop_ne, cop_eqb, cop_neb, blt_abs, blt_lenT, blt_lenL, flat, lLINE0, lLINE1, lLINE2, lLINE3, lLINE4, lLINE5, lLINE6, lLINE7, lLINE8, alloc, sub_fl, sub_tp, seqOf_tup, seqOf_fl, ↓ev_int, ↓ev_bl, ↓ev_str, ↓ev_non, List.getElem?_cons_zero, List.getElem?_cons_succ, List.set_cons_zero, List.set_cons_succ, List.length_cons, List.length_nil, List.map_cons, List.map_nil, List.replicate, List.nil_append, List.cons_append, List.append_nil, if_true, if_false, decide_true, decide_false, Bool.not_true, Bool.not_false, Bool.false_eq_true, Nat.reduceLT, Nat.reduceAdd, Nat.reduceSub, Nat.reduceLeDiff, Nat.zero_add, Nat.add_zero, Nat.sub_zero, Nat.lt_add_one, Nat.zero_lt_succ, and_true, and_self, true_and, ite_true, ite_false, rowD]) rfl (by rw [List.length_map, LINE_num]; omega)
      have run : exs (envOf P (n + 1)) loopA [some (.int c), some w, some (.int most), some r, some (.int i), some (.ref 0), some (.int d), some (.int h), none, none, none, none, none, none, none] [.lst (ps.map rowD)] = .nx [some (.int c), some w, some (.int most), some r, some (.int i), some (.ref 0), some (.int (d + 1 + v1 % (most / 2 + 2))), some (.int (h + v2 % 3 * (v3 % (most / 4 + 2)))), none, none, none, none, none, none, none] [.lst (ps.map rowD ++ [rowD (d + 1 + v1 % (most / 2 + 2), h + v2 % 3 * (v3 % (most / 4 + 2)))])] := by
        refine (exs_nx (σ' := [some (.int c), some w, some (.int most), some r, some (.int i), some (.ref 0), some (.int (d + 1 + v1 % (most / 2 + 2))), some (.int h), none, none, none, none, none, none, none]) (S' := [.lst (ps.map rowD)]) (by simp only [ev, evs, evo, evc, asg, asgs, exs_cons, exs_nil, ex, bind_ok, bind_exc, st_ok, st_exc, bind_nx, bind_ret, bind_brk, bind_cnt, bind_xc, fin_ret, fin_nx, fin_exc, asE_some, asB_ok, bop_add, bop_sub, bop_mul, bop_fdiv, bop_mod, cop_lt, cop_le, cop_gt, cop_ge, cop_eq, cop_ne, cop_eqb, cop_neb, blt_abs, blt_lenT, blt_lenL, flat, lLINE0, lLINE1, lLINE2, lLINE3, lLINE4, lLINE5, lLINE6, lLINE7, lLINE8, alloc, sub_fl, sub_tp, seqOf_tup, seqOf_fl, ↓ev_int, ↓ev_bl, ↓ev_str, ↓ev_non, List.getElem?_cons_zero, List.getElem?_cons_succ, List.set_cons_zero, List.set_cons_succ, List.length_cons, List.length_nil, List.map_cons, List.map_nil, List.replicate, List.nil_append, List.cons_append, List.append_nil, if_true, if_false, decide_true, decide_false, Bool.not_true, Bool.not_false, Bool.false_eq_true, Nat.reduceLT, Nat.reduceAdd, Nat.reduceSub, Nat.reduceLeDiff, Nat.zero_add, Nat.add_zero, Nat.sub_zero, Nat.lt_add_one, Nat.zero_lt_succ, and_true, and_self, true_and, ite_true, ite_false, n1, d2, p2])).trans ?_
        refine (exs_nx (σ' := [some (.int c), some w, some (.int most), some r, some (.int i), some (.ref 0), some (.int (d + 1 + v1 % (most / 2 + 2))), some (.int (h + v2 % 3 * (v3 % (most / 4 + 2)))), none, none, none, none, none, none, none]) (S' := [.lst (ps.map rowD)]) (by simp only [ev, evs, evo, evc, asg, asgs, exs_cons, exs_nil, ex, bind_ok, bind_exc, st_ok, st_exc, bind_nx, bind_ret, bind_brk, bind_cnt, bind_xc, fin_ret, fin_nx, fin_exc, asE_some, asB_ok, bop_add, bop_sub, bop_mul, bop_fdiv, bop_mod, cop_lt, cop_le, cop_gt, cop_ge, cop_eq, cop_ne, cop_eqb, cop_neb, blt_abs, blt_lenT, blt_lenL, flat, lLINE0, lLINE1, lLINE2, lLINE3, lLINE4, lLINE5, lLINE6, lLINE7, lLINE8, alloc, sub_fl, sub_tp, seqOf_tup, seqOf_fl, ↓ev_int, ↓ev_bl, ↓ev_str, ↓ev_non, List.getElem?_cons_zero, List.getElem?_cons_succ, List.set_cons_zero, List.set_cons_succ, List.length_cons, List.length_nil, List.map_cons, List.map_nil, List.replicate, List.nil_append, List.cons_append, List.append_nil, if_true, if_false, decide_true, decide_false, Bool.not_true, Bool.not_false, Bool.false_eq_true, Nat.reduceLT, Nat.reduceAdd, Nat.reduceSub, Nat.reduceLeDiff, Nat.zero_add, Nat.add_zero, Nat.sub_zero, Nat.lt_add_one, Nat.zero_lt_succ, and_true, and_self, true_and, ite_true, ite_false, n2, n3, d4, p4, z3, mo])).trans ?_
        refine (exs_nx (by rw [ex, ap, st_ok])).trans ?_
        exact exs_nil
      refine ⟨_, _, .inl run, ps ++ [(d + 1 + v1 % (most / 2 + 2), h + v2 % 3 * (v3 % (most / 4 + 2)))], _, _, ?_, by simp [r2], ?_, ?_, ?_, ?_, ?_, _, rfl⟩
      · exact rows_add r1 r3 r4 (by omega) (by omega) (by omega) (by omega)
      · intro p hp
        rcases List.mem_append.mp hp with hp | hp
        · have := r3 p hp; omega
        · have e1 : p = (d + 1 + v1 % (most / 2 + 2), h + v2 % 3 * (v3 % (most / 4 + 2))) := by simpa using hp
          rw [e1]; exact Int.le_refl _
      · omega
      · push_cast; omega
      · refine ⟨by omega, ?_⟩
        push_cast; omega
      · rw [List.map_append]; rfl)
  rw [rngD_len] at i2
  exact ⟨σ', S', h1, ps, .non, .int d, .int h, i1, by omega, i7, k, i9⟩
def loopB : Sts := match F_law_five.body with
  | .cons _ (.cons _ (.cons _ (.cons _ (.cons _ (.cons _ (.cons _ (.cons (.for_ _ _ b) _))))))) => b
  | _ => .nil
def loopC : Sts := match loopB with
  | .cons (.for_ _ _ b) _ => b
  | _ => .nil
def SB (c most : Int) (w r d h : D) (rows : List D) (σ : Slots) (S : Store) (m : Nat) (p : Option D) : Prop :=
  ∃ (th ap : List D) (k q o pr : Option D), (∀ t ∈ th, ThickD t) ∧ (∀ t ∈ ap, ApartD t) ∧ th.length ≤ m ∧ ap.length ≤ m ∧ S = [.lst rows, .lst th, .lst ap] ∧ σ = [some (.int c), some w, some (.int most), some r, k, some (.ref 0), some d, some h, some (.ref 1), some (.ref 2), p, q, o, pr, none]
theorem at_map {ws : List Str} {i : Nat} (h : i < ws.length) : at? (ws.map D.str) (i : Int) = some (.str ws[i]) := by
  unfold at? ixN
  rw [if_pos (by omega), if_pos (by simp; omega)]
  show (ws.map D.str)[i]? = _
  rw [List.getElem?_map, List.getElem?_eq_getElem h]; rfl
theorem pair_turn (hP : Has P) (n : Nat) (c most : Int) (ws : List Str) (hw : ws.length = 6) (r d h : D) (rows : List D) (p q : Nat) (hp : p < 6) (hq : q < p) (m : Nat) (hm : m ≤ 100) (σ : Slots) (S : Store) (hI : SB c most (.fl (ws.map .str)) r d h rows σ S m (some (.int p))) :
    ∃ σ1 S1, asg (envOf P (n + 1)) (.name 11) (.int q) σ S = .ok σ1 S1 ∧ ∃ σ2 S2, (exs (envOf P (n + 1)) loopC σ1 S1 = .nx σ2 S2 ∨ exs (envOf P (n + 1)) loopC σ1 S1 = .cnt σ2 S2) ∧ SB c most (.fl (ws.map .str)) r d h rows σ2 S2 (m + 1) (some (.int p)) := by
  obtain ⟨th, ap, k, q0, o, pr, t1, t2, t3, t4, rfl, rfl⟩ := hI
  refine ⟨_, _, by simp only [ev, evs, evo, evc, asg, asgs, exs_cons, exs_nil, ex, bind_ok, bind_exc, st_ok, st_exc, bind_nx, bind_ret, bind_brk, bind_cnt, bind_xc, fin_ret, fin_nx, fin_exc, asE_some, asB_ok, bop_add, bop_sub, bop_mul, bop_fdiv, bop_mod, cop_lt, cop_le, cop_gt, cop_ge, cop_eq, cop_ne, cop_eqb, cop_neb, blt_abs, blt_lenT, blt_lenL, flat, lLINE0, lLINE1, lLINE2, lLINE3, lLINE4, lLINE5, lLINE6, lLINE7, lLINE8, alloc, sub_fl, sub_tp, seqOf_tup, seqOf_fl, ↓ev_int, ↓ev_bl, ↓ev_str, ↓ev_non, List.getElem?_cons_zero, List.getElem?_cons_succ, List.set_cons_zero, List.set_cons_succ, List.length_cons, List.length_nil, List.map_cons, List.map_nil, List.replicate, List.nil_append, List.cons_append, List.append_nil, if_true, if_false, decide_true, decide_false, Bool.not_true, Bool.not_false, Bool.false_eq_true, Nat.reduceLT, Nat.reduceAdd, Nat.reduceSub, Nat.reduceLeDiff, Nat.zero_add, Nat.add_zero, Nat.sub_zero, Nat.lt_add_one, Nat.zero_lt_succ, and_true, and_self, true_and, ite_true, ite_false]; rfl, ?_⟩
  obtain ⟨v, nv, av, bv⟩ := frz_mix hP.mix n c (60 + 6 * (p : Int) + q) (by omega) (by omega)
  have m6 : mulOk 6 p := mulOk_bd (k := 3) (l := 3) (by unfold Bd; decide) (by unfold Bd; omega) (by omega) (by omega)
  have z2 : (0 : Int) < 2 := by decide
  have z3 : (0 : Int) < 3 := by decide
  have z4 : (0 : Int) < 4 := by decide
  have z9 : (0 : Int) < 9 := by decide
  have d2 : divOk 2 := ⟨by decide, by decide⟩
  have d6 : divOk 6 := ⟨by decide, by decide⟩
  have d24 : divOk 24 := ⟨by decide, by decide⟩
  have ap_ := at_map (ws := ws) (i := p) (by omega)
  have aq_ := at_map (ws := ws) (i := q) (by omega)
  have q2 := mod_in (v := v) z2
  have q4 := mod_in (v := v / 6) z4
  obtain ⟨x, hx, hxm⟩ := at_ok (xs := [.tup [.str (ws[p]'(by omega)), .str (ws[q]'(by omega))], .tup [.str (ws[q]'(by omega)), .str (ws[p]'(by omega))]]) (i := v % 2) q2.1 q2.2
  obtain ⟨a, b, rfl⟩ : ∃ a b : Str, x = .tup [.str a, .str b] := by
    simp only [List.mem_cons, List.not_mem_nil, or_false] at hxm
    rcases hxm with rfl | rfl <;> exact ⟨_, _, rfl⟩
  -- the first two rows
  have e1 : ∀ S, exs (envOf P (n + 1)) loopC [some (.int c), some (.fl (ws.map .str)), some (.int most), some r, k, some (.ref 0), some d, some h, some (.ref 1), some (.ref 2), some (.int p), some (.int q), o, pr, none] S =
      exs (envOf P (n + 1)) (dropS 2 loopC) [some (.int c), some (.fl (ws.map .str)), some (.int most), some r, k, some (.ref 0), some d, some h, some (.ref 1), some (.ref 2), some (.int p), some (.int q), some (.int v), some (.tup [.str a, .str b]), none] S := fun S => by
    refine (exs_nx (σ' := [some (.int c), some (.fl (ws.map .str)), some (.int most), some r, k, some (.ref 0), some d, some h, some (.ref 1), some (.ref 2), some (.int p), some (.int q), some (.int v), pr, none]) (S' := S) (by simp only [ev, evs, evo, evc, asg, asgs, exs_cons, exs_nil, ex, bind_ok, bind_exc, st_ok, st_exc, bind_nx, bind_ret, bind_brk, bind_cnt, bind_xc, fin_ret, fin_nx, fin_exc, asE_some, asB_ok, bop_add, bop_sub, bop_mul, bop_fdiv, bop_mod, cop_lt, cop_le, cop_gt, cop_ge, cop_eq, cop_ne, cop_eqb, cop_neb, blt_abs, blt_lenT, blt_lenL, flat, lLINE0, lLINE1, lLINE2, lLINE3, lLINE4, lLINE5, lLINE6, lLINE7, lLINE8, alloc, sub_fl, sub_tp, seqOf_tup, seqOf_fl, ↓ev_int, ↓ev_bl, ↓ev_str, ↓ev_non, List.getElem?_cons_zero, List.getElem?_cons_succ, List.set_cons_zero, List.set_cons_succ, List.length_cons, List.length_nil, List.map_cons, List.map_nil, List.replicate, List.nil_append, List.cons_append, List.append_nil, if_true, if_false, decide_true, decide_false, Bool.not_true, Bool.not_false, Bool.false_eq_true, Nat.reduceLT, Nat.reduceAdd, Nat.reduceSub, Nat.reduceLeDiff, Nat.zero_add, Nat.add_zero, Nat.sub_zero, Nat.lt_add_one, Nat.zero_lt_succ, and_true, and_self, true_and, ite_true, ite_false, m6, nv])).trans ?_
    exact exs_nx (σ' := [some (.int c), some (.fl (ws.map .str)), some (.int most), some r, k, some (.ref 0), some d, some h, some (.ref 1), some (.ref 2), some (.int p), some (.int q), some (.int v), some (.tup [.str a, .str b]), none]) (S' := S) (by simp only [ev, evs, evo, evc, asg, asgs, exs_cons, exs_nil, ex, bind_ok, bind_exc, st_ok, st_exc, bind_nx, bind_ret, bind_brk, bind_cnt, bind_xc, fin_ret, fin_nx, fin_exc, asE_some, asB_ok, bop_add, bop_sub, bop_mul, bop_fdiv, bop_mod, cop_lt, cop_le, cop_gt, cop_ge, cop_eq, cop_ne, cop_eqb, cop_neb, blt_abs, blt_lenT, blt_lenL, flat, lLINE0, lLINE1, lLINE2, lLINE3, lLINE4, lLINE5, lLINE6, lLINE7, lLINE8, alloc, sub_fl, sub_tp, seqOf_tup, seqOf_fl, ↓ev_int, ↓ev_bl, ↓ev_str, ↓ev_non, List.getElem?_cons_zero, List.getElem?_cons_succ, List.set_cons_zero, List.set_cons_succ, List.length_cons, List.length_nil, List.map_cons, List.map_nil, List.replicate, List.nil_append, List.cons_append, List.append_nil, if_true, if_false, decide_true, decide_false, Bool.not_true, Bool.not_false, Bool.false_eq_true, Nat.reduceLT, Nat.reduceAdd, Nat.reduceSub, Nat.reduceLeDiff, Nat.zero_add, Nat.add_zero, Nat.sub_zero, Nat.lt_add_one, Nat.zero_lt_succ, and_true, and_self, true_and, ite_true, ite_false, ap_, aq_, z2, hx])
  rw [e1]
  have c1 : ∃ th', (∀ t ∈ th', ThickD t) ∧ th'.length ≤ m + 1 ∧ exs (envOf P (n + 1)) (dropS 2 loopC) [some (.int c), some (.fl (ws.map .str)), some (.int most), some r, k, some (.ref 0), some d, some h, some (.ref 1), some (.ref 2), some (.int p), some (.int q), some (.int v), some (.tup [.str a, .str b]), none] [.lst rows, .lst th, .lst ap] =
      exs (envOf P (n + 1)) (dropS 3 loopC) [some (.int c), some (.fl (ws.map .str)), some (.int most), some r, k, some (.ref 0), some d, some h, some (.ref 1), some (.ref 2), some (.int p), some (.int q), some (.int v), some (.tup [.str a, .str b]), none] [.lst rows, .lst th', .lst ap] := by
    by_cases h0 : v / 2 % 3 = 0
    · have bt := bop_tup (x := D.str a) (y := D.int (v / 6 % 4)) (xs := [.str b]) (ys := []) (S := [.lst rows, .lst th, .lst ap]) (by show 3 ≤ 16777216; omega)
      have ea := ev_append (C := envOf P (n + 1)) (b := false) (a := .var 8) (e := .bin .add (.var 13) (.tup (.cons (.bin .mod (.bin .fdiv (.var 12) (.lit (.int 6))) (.lit (.int 4))) .nil))) (σ := [some (.int c), some (.fl (ws.map .str)), some (.int most), some r, k, some (.ref 0), some d, some h, some (.ref 1), some (.ref 2), some (.int p), some (.int q), some (.int v), some (.tup [.str a, .str b]), none]) (S := [.lst rows, .lst th, .lst ap]) (i := 1) (xs := th) (y := .tup [.str a, .str b, .int (v / 6 % 4)]) (by simp only [ev, evs, evo, evc, asg, asgs, exs_cons, exs_nil, ex, bind_ok, bind_exc, st_ok, st_exc, bind_nx, bind_ret, bind_brk, bind_cnt, bind_xc, fin_ret, fin_nx, fin_exc, asE_some, asB_ok, bop_add, bop_sub, bop_mul, bop_fdiv, bop_mod, cop_lt, cop_le, cop_gt, cop_ge, cop_eq, cop_ne, cop_eqb, cop_neb, blt_abs, blt_lenT, blt_lenL, flat, lLINE0, lLINE1, lLINE2, lLINE3, lLINE4, lLINE5, lLINE6, lLINE7, lLINE8, alloc, sub_fl, sub_tp, seqOf_tup, seqOf_fl, ↓ev_int, ↓ev_bl, ↓ev_str, ↓ev_non, List.getElem?_cons_zero, List.getElem?_cons_succ, List.set_cons_zero, List.set_cons_succ, List.length_cons, List.length_nil, List.map_cons, List.map_nil, List.replicate, List.nil_append, List.cons_append, List.append_nil, if_true, if_false, decide_true, decide_false, Bool.not_true, Bool.not_false, Bool.false_eq_true, Nat.reduceLT, Nat.reduceAdd, Nat.reduceSub, Nat.reduceLeDiff, Nat.zero_add, Nat.add_zero, Nat.sub_zero, Nat.lt_add_one, Nat.zero_lt_succ, and_true, and_self, true_and, ite_true, ite_false]) (by simp only [ev, evs, evo, evc, asg, asgs, exs_cons, exs_nil, ex, bind_ok, bind_exc, st_ok, st_exc, bind_nx, bind_ret, bind_brk, bind_cnt, bind_xc, fin_ret, fin_nx, fin_exc, asE_some, asB_ok, bop_add, bop_sub, bop_mul, bop_fdiv, bop_mod, cop_lt, cop_le, cop_gt, cop_ge, cop_eq, cop_ne, cop_eqb, cop_neb, blt_abs, blt_lenT, blt_lenL, flat, lLINE0, lLINE1, lLINE2, lLINE3, lLINE4, lLINE5, lLINE6, lLINE7, lLINE8, alloc, sub_fl, sub_tp, seqOf_tup, seqOf_fl, ↓ev_int, ↓ev_bl, ↓ev_str, ↓ev_non, List.getElem?_cons_zero, List.getElem?_cons_succ, List.set_cons_zero, List.set_cons_succ, List.length_cons, List.length_nil, List.map_cons, List.map_nil, List.replicate, List.nil_append, List.cons_append, List.append_nil, if_true, if_false, decide_true, decide_false, Bool.not_true, Bool.not_false, Bool.false_eq_true, Nat.reduceLT, Nat.reduceAdd, Nat.reduceSub, Nat.reduceLeDiff, Nat.zero_add, Nat.add_zero, Nat.sub_zero, Nat.lt_add_one, Nat.zero_lt_succ, and_true, and_self, true_and, ite_true, ite_false, d6, z4, bt]) rfl (by rw [LINE_num]; omega)
      refine ⟨th ++ [.tup [.str a, .str b, .int (v / 6 % 4)]], fun t ht => ?_, by simp; omega, ?_⟩
      · rcases List.mem_append.mp ht with ht | ht
        · exact t1 t ht
        · have e : t = .tup [.str a, .str b, .int (v / 6 % 4)] := by simpa using ht
          exact ⟨a, b, _, e, q4.1, q4.2⟩
      · refine (exs_nx ?_).trans rfl
        rw [ex_ite (p := true) (S1 := [.lst rows, .lst th, .lst ap]) (by simp only [ev, evs, evo, evc, asg, asgs, exs_cons, exs_nil, ex, bind_ok, bind_exc, st_ok, st_exc, bind_nx, bind_ret, bind_brk, bind_cnt, bind_xc, fin_ret, fin_nx, fin_exc, asE_some, asB_ok, bop_add, bop_sub, bop_mul, bop_fdiv, bop_mod, cop_lt, cop_le, cop_gt, cop_ge, cop_eq, cop_ne, cop_eqb, cop_neb, blt_abs, blt_lenT, blt_lenL, flat, lLINE0, lLINE1, lLINE2, lLINE3, lLINE4, lLINE5, lLINE6, lLINE7, lLINE8, alloc, sub_fl, sub_tp, seqOf_tup, seqOf_fl, ↓ev_int, ↓ev_bl, ↓ev_str, ↓ev_non, List.getElem?_cons_zero, List.getElem?_cons_succ, List.set_cons_zero, List.set_cons_succ, List.length_cons, List.length_nil, List.map_cons, List.map_nil, List.replicate, List.nil_append, List.cons_append, List.append_nil, if_true, if_false, decide_true, decide_false, Bool.not_true, Bool.not_false, Bool.false_eq_true, Nat.reduceLT, Nat.reduceAdd, Nat.reduceSub, Nat.reduceLeDiff, Nat.zero_add, Nat.add_zero, Nat.sub_zero, Nat.lt_add_one, Nat.zero_lt_succ, and_true, and_self, true_and, ite_true, ite_false, d2, z3, h0]), if_pos rfl, exs_cons, ex, ea, st_ok, bind_nx, exs_nil]
        rfl
    · refine ⟨th, t1, by omega, (exs_nx ?_).trans rfl⟩
      rw [ex_ite (p := false) (S1 := [.lst rows, .lst th, .lst ap]) (by simp only [ev, evs, evo, evc, asg, asgs, exs_cons, exs_nil, ex, bind_ok, bind_exc, st_ok, st_exc, bind_nx, bind_ret, bind_brk, bind_cnt, bind_xc, fin_ret, fin_nx, fin_exc, asE_some, asB_ok, bop_add, bop_sub, bop_mul, bop_fdiv, bop_mod, cop_lt, cop_le, cop_gt, cop_ge, cop_eq, cop_ne, cop_eqb, cop_neb, blt_abs, blt_lenT, blt_lenL, flat, lLINE0, lLINE1, lLINE2, lLINE3, lLINE4, lLINE5, lLINE6, lLINE7, lLINE8, alloc, sub_fl, sub_tp, seqOf_tup, seqOf_fl, ↓ev_int, ↓ev_bl, ↓ev_str, ↓ev_non, List.getElem?_cons_zero, List.getElem?_cons_succ, List.set_cons_zero, List.set_cons_succ, List.length_cons, List.length_nil, List.map_cons, List.map_nil, List.replicate, List.nil_append, List.cons_append, List.append_nil, if_true, if_false, decide_true, decide_false, Bool.not_true, Bool.not_false, Bool.false_eq_true, Nat.reduceLT, Nat.reduceAdd, Nat.reduceSub, Nat.reduceLeDiff, Nat.zero_add, Nat.add_zero, Nat.sub_zero, Nat.lt_add_one, Nat.zero_lt_succ, and_true, and_self, true_and, ite_true, ite_false, d2, z3, h0]), if_neg (by simp), exs_nil]
  obtain ⟨th', u1, u2, e2⟩ := c1
  rw [e2]
  have c2 : ∃ ap', (∀ t ∈ ap', ApartD t) ∧ ap'.length ≤ m + 1 ∧ exs (envOf P (n + 1)) (dropS 3 loopC) [some (.int c), some (.fl (ws.map .str)), some (.int most), some r, k, some (.ref 0), some d, some h, some (.ref 1), some (.ref 2), some (.int p), some (.int q), some (.int v), some (.tup [.str a, .str b]), none] [.lst rows, .lst th', .lst ap] =
      .nx [some (.int c), some (.fl (ws.map .str)), some (.int most), some r, k, some (.ref 0), some d, some h, some (.ref 1), some (.ref 2), some (.int p), some (.int q), some (.int v), some (.tup [.str a, .str b]), none] [.lst rows, .lst th', .lst ap'] := by
    by_cases h0 : v / 24 % 9 = 0
    · have ea := ev_append (C := envOf P (n + 1)) (b := false) (a := .var 9) (e := .var 13) (σ := [some (.int c), some (.fl (ws.map .str)), some (.int most), some r, k, some (.ref 0), some d, some h, some (.ref 1), some (.ref 2), some (.int p), some (.int q), some (.int v), some (.tup [.str a, .str b]), none]) (S := [.lst rows, .lst th', .lst ap]) (i := 2) (xs := ap) (y := .tup [.str a, .str b]) (by simp only [ev, evs, evo, evc, asg, asgs, exs_cons, exs_nil, ex, bind_ok, bind_exc, st_ok, st_exc, bind_nx, bind_ret, bind_brk, bind_cnt, bind_xc, fin_ret, fin_nx, fin_exc, asE_some, asB_ok, bop_add, bop_sub, bop_mul, bop_fdiv, bop_mod, cop_lt, cop_le, cop_gt, cop_ge, cop_eq, cop_ne, cop_eqb, cop_neb, blt_abs, blt_lenT, blt_lenL, flat, lLINE0, lLINE1, lLINE2, lLINE3, lLINE4, lLINE5, lLINE6, lLINE7, lLINE8, alloc, sub_fl, sub_tp, seqOf_tup, seqOf_fl, ↓ev_int, ↓ev_bl, ↓ev_str, ↓ev_non, List.getElem?_cons_zero, List.getElem?_cons_succ, List.set_cons_zero, List.set_cons_succ, List.length_cons, List.length_nil, List.map_cons, List.map_nil, List.replicate, List.nil_append, List.cons_append, List.append_nil, if_true, if_false, decide_true, decide_false, Bool.not_true, Bool.not_false, Bool.false_eq_true, Nat.reduceLT, Nat.reduceAdd, Nat.reduceSub, Nat.reduceLeDiff, Nat.zero_add, Nat.add_zero, Nat.sub_zero, Nat.lt_add_one, Nat.zero_lt_succ, and_true, and_self, true_and, ite_true, ite_false]) (by simp only [ev, evs, evo, evc, asg, asgs, exs_cons, exs_nil, ex, bind_ok, bind_exc, st_ok, st_exc, bind_nx, bind_ret, bind_brk, bind_cnt, bind_xc, fin_ret, fin_nx, fin_exc, asE_some, asB_ok, bop_add, bop_sub, bop_mul, bop_fdiv, bop_mod, cop_lt, cop_le, cop_gt, cop_ge, cop_eq, cop_ne, cop_eqb, cop_neb, blt_abs, blt_lenT, blt_lenL, flat, lLINE0, lLINE1, lLINE2, lLINE3, lLINE4, lLINE5, lLINE6, lLINE7, lLINE8, alloc, sub_fl, sub_tp, seqOf_tup, seqOf_fl, ↓ev_int, ↓ev_bl, ↓ev_str, ↓ev_non, List.getElem?_cons_zero, List.getElem?_cons_succ, List.set_cons_zero, List.set_cons_succ, List.length_cons, List.length_nil, List.map_cons, List.map_nil, List.replicate, List.nil_append, List.cons_append, List.append_nil, if_true, if_false, decide_true, decide_false, Bool.not_true, Bool.not_false, Bool.false_eq_true, Nat.reduceLT, Nat.reduceAdd, Nat.reduceSub, Nat.reduceLeDiff, Nat.zero_add, Nat.add_zero, Nat.sub_zero, Nat.lt_add_one, Nat.zero_lt_succ, and_true, and_self, true_and, ite_true, ite_false]) rfl (by rw [LINE_num]; omega)
      refine ⟨ap ++ [.tup [.str a, .str b]], fun t ht => ?_, by simp; omega, ?_⟩
      · rcases List.mem_append.mp ht with ht | ht
        · exact t2 t ht
        · have e : t = .tup [.str a, .str b] := by simpa using ht
          exact ⟨a, b, e⟩
      · refine (exs_nx ?_).trans exs_nil
        rw [ex_ite (p := true) (S1 := [.lst rows, .lst th', .lst ap]) (by simp only [ev, evs, evo, evc, asg, asgs, exs_cons, exs_nil, ex, bind_ok, bind_exc, st_ok, st_exc, bind_nx, bind_ret, bind_brk, bind_cnt, bind_xc, fin_ret, fin_nx, fin_exc, asE_some, asB_ok, bop_add, bop_sub, bop_mul, bop_fdiv, bop_mod, cop_lt, cop_le, cop_gt, cop_ge, cop_eq, cop_ne, cop_eqb, cop_neb, blt_abs, blt_lenT, blt_lenL, flat, lLINE0, lLINE1, lLINE2, lLINE3, lLINE4, lLINE5, lLINE6, lLINE7, lLINE8, alloc, sub_fl, sub_tp, seqOf_tup, seqOf_fl, ↓ev_int, ↓ev_bl, ↓ev_str, ↓ev_non, List.getElem?_cons_zero, List.getElem?_cons_succ, List.set_cons_zero, List.set_cons_succ, List.length_cons, List.length_nil, List.map_cons, List.map_nil, List.replicate, List.nil_append, List.cons_append, List.append_nil, if_true, if_false, decide_true, decide_false, Bool.not_true, Bool.not_false, Bool.false_eq_true, Nat.reduceLT, Nat.reduceAdd, Nat.reduceSub, Nat.reduceLeDiff, Nat.zero_add, Nat.add_zero, Nat.sub_zero, Nat.lt_add_one, Nat.zero_lt_succ, and_true, and_self, true_and, ite_true, ite_false, d24, z9, h0]), if_pos rfl, exs_cons, ex, ea, st_ok, bind_nx, exs_nil]
        rfl
    · refine ⟨ap, t2, by omega, (exs_nx ?_).trans exs_nil⟩
      rw [ex_ite (p := false) (S1 := [.lst rows, .lst th', .lst ap]) (by simp only [ev, evs, evo, evc, asg, asgs, exs_cons, exs_nil, ex, bind_ok, bind_exc, st_ok, st_exc, bind_nx, bind_ret, bind_brk, bind_cnt, bind_xc, fin_ret, fin_nx, fin_exc, asE_some, asB_ok, bop_add, bop_sub, bop_mul, bop_fdiv, bop_mod, cop_lt, cop_le, cop_gt, cop_ge, cop_eq, cop_ne, cop_eqb, cop_neb, blt_abs, blt_lenT, blt_lenL, flat, lLINE0, lLINE1, lLINE2, lLINE3, lLINE4, lLINE5, lLINE6, lLINE7, lLINE8, alloc, sub_fl, sub_tp, seqOf_tup, seqOf_fl, ↓ev_int, ↓ev_bl, ↓ev_str, ↓ev_non, List.getElem?_cons_zero, List.getElem?_cons_succ, List.set_cons_zero, List.set_cons_succ, List.length_cons, List.length_nil, List.map_cons, List.map_nil, List.replicate, List.nil_append, List.cons_append, List.append_nil, if_true, if_false, decide_true, decide_false, Bool.not_true, Bool.not_false, Bool.false_eq_true, Nat.reduceLT, Nat.reduceAdd, Nat.reduceSub, Nat.reduceLeDiff, Nat.zero_add, Nat.add_zero, Nat.sub_zero, Nat.lt_add_one, Nat.zero_lt_succ, and_true, and_self, true_and, ite_true, ite_false, d24, z9, h0]), if_neg (by simp), exs_nil]
  obtain ⟨ap', u3, u4, e3⟩ := c2
  exact ⟨_, _, .inl e3, th', ap', k, _, _, _, u1, u3, u2, u4, rfl, rfl⟩
theorem SB.mono {c most : Int} {w r d h : D} {rows : List D} {σ : Slots} {S : Store} {m m' : Nat} {p : Option D} (I : SB c most w r d h rows σ S m p) (hm : m ≤ m') : SB c most w r d h rows σ S m' p := by
  obtain ⟨th, ap, k, q, o, pr, t1, t2, t3, t4, t5, t6⟩ := I
  exact ⟨th, ap, k, q, o, pr, t1, t2, by omega, by omega, t5, t6⟩
theorem pairs_loop (hP : Has P) (n : Nat) (c most : Int) (ws : List Str) (hw : ws.length = 6) (r d h : D) (rows : List D) (σ : Slots) (S : Store) (p0 : Option D) (hI : SB c most (.fl (ws.map .str)) r d h rows σ S 0 p0) :
    ∃ σ' S', forL (fun d σ S => asg (envOf P (n + 1)) (.name 10) d σ S) (fun σ S => exs (envOf P (n + 1)) loopB σ S) none (rngD 0 1 6) σ S = .nx σ' S' ∧ ∃ p, SB c most (.fl (ws.map .str)) r d h rows σ' S' 36 p := by
  obtain ⟨σ', S', h1, h2⟩ := forL_idx (asg := fun d σ S => asg (envOf P (n + 1)) (.name 10) d σ S) (body := fun σ S => exs (envOf P (n + 1)) loopB σ S) (ck := none) (k := 0) (xs := rngD 0 1 6)
    (I := fun i σ S => ∃ p, SB c most (.fl (ws.map .str)) r d h rows σ S (6 * i) p) (fun _ _ _ _ => trivial) (σ := σ) (S := S) ⟨p0, hI⟩ (by
      rintro i x σ S hx ⟨p, hI⟩
      obtain ⟨hi, rfl⟩ := rng_get hx
      rw [Nat.zero_add] at hI ⊢
      have hI0 : ∃ σ1, asg (envOf P (n + 1)) (.name 10) (.int i) σ S = .ok σ1 S ∧ SB c most (.fl (ws.map .str)) r d h rows σ1 S (6 * i) (some (.int i)) := by
        obtain ⟨th, ap, k, q, o, pr, t1, t2, t3, t4, rfl, rfl⟩ := hI
        exact ⟨_, by simp only [ev, evs, evo, evc, asg, asgs, exs_cons, exs_nil, ex, bind_ok, bind_exc, st_ok, st_exc, bind_nx, bind_ret, bind_brk, bind_cnt, bind_xc, fin_ret, fin_nx, fin_exc, asE_some, asB_ok, bop_add, bop_sub, bop_mul, bop_fdiv, bop_mod, cop_lt, cop_le, cop_gt, cop_ge, cop_eq, cop_ne, cop_eqb, cop_neb, blt_abs, blt_lenT, blt_lenL, flat, lLINE0, lLINE1, lLINE2, lLINE3, lLINE4, lLINE5, lLINE6, lLINE7, lLINE8, alloc, sub_fl, sub_tp, seqOf_tup, seqOf_fl, ↓ev_int, ↓ev_bl, ↓ev_str, ↓ev_non, List.getElem?_cons_zero, List.getElem?_cons_succ, List.set_cons_zero, List.set_cons_succ, List.length_cons, List.length_nil, List.map_cons, List.map_nil, List.replicate, List.nil_append, List.cons_append, List.append_nil, if_true, if_false, decide_true, decide_false, Bool.not_true, Bool.not_false, Bool.false_eq_true, Nat.reduceLT, Nat.reduceAdd, Nat.reduceSub, Nat.reduceLeDiff, Nat.zero_add, Nat.add_zero, Nat.sub_zero, Nat.lt_add_one, Nat.zero_lt_succ, and_true, and_self, true_and, ite_true, ite_false], th, ap, k, q, o, pr, t1, t2, t3, t4, rfl, rfl⟩
      obtain ⟨σ1, a1, hI1⟩ := hI0
      refine ⟨σ1, S, a1, ?_⟩
      obtain ⟨σ2, S2, f1, f2⟩ := forL_idx (asg := fun d σ S => asg (envOf P (n + 1)) (.name 11) d σ S) (body := fun σ S => exs (envOf P (n + 1)) loopC σ S) (ck := none) (k := 0) (xs := rngD 0 1 i)
        (I := fun j σ S => SB c most (.fl (ws.map .str)) r d h rows σ S (6 * i + j) (some (.int i))) (fun _ _ _ _ => trivial) (σ := σ1) (S := S) hI1 (by
          rintro j y σ S hy hJ
          obtain ⟨hj, rfl⟩ := rng_get hy
          rw [Nat.zero_add] at hJ ⊢
          exact pair_turn hP n c most ws hw r d h rows i j hi hj (6 * i + j) (by omega) σ S hJ)
      rw [rngD_len, Nat.zero_add] at f2
      refine ⟨σ2, S2, .inl ?_, some (.int i), f2.mono (by omega)⟩
      refine (exs_nx ?_).trans exs_nil
      rw [ex, evi_rng1 (n := (i : Int)) (S1 := S) (by obtain ⟨th, ap, k, q, o, pr, t1, t2, t3, t4, rfl, rfl⟩ := hI1; simp only [ev, evs, evo, evc, asg, asgs, exs_cons, exs_nil, ex, bind_ok, bind_exc, st_ok, st_exc, bind_nx, bind_ret, bind_brk, bind_cnt, bind_xc, fin_ret, fin_nx, fin_exc, asE_some, asB_ok, bop_add, bop_sub, bop_mul, bop_fdiv, bop_mod, cop_lt, cop_le, cop_gt, cop_ge, cop_eq, cop_ne, cop_eqb, cop_neb, blt_abs, blt_lenT, blt_lenL, flat, lLINE0, lLINE1, lLINE2, lLINE3, lLINE4, lLINE5, lLINE6, lLINE7, lLINE8, alloc, sub_fl, sub_tp, seqOf_tup, seqOf_fl, ↓ev_int, ↓ev_bl, ↓ev_str, ↓ev_non, List.getElem?_cons_zero, List.getElem?_cons_succ, List.set_cons_zero, List.set_cons_succ, List.length_cons, List.length_nil, List.map_cons, List.map_nil, List.replicate, List.nil_append, List.cons_append, List.append_nil, if_true, if_false, decide_true, decide_false, Bool.not_true, Bool.not_false, Bool.false_eq_true, Nat.reduceLT, Nat.reduceAdd, Nat.reduceSub, Nat.reduceLeDiff, Nat.zero_add, Nat.add_zero, Nat.sub_zero, Nat.lt_add_one, Nat.zero_lt_succ, and_true, and_self, true_and, ite_true, ite_false]) (by omega) (by omega), st_ok]
      exact f1)
  rw [rngD_len] at h2
  exact ⟨σ', S', h1, h2⟩
theorem ints_of_rel : ∀ {ys : List D} {Q : Int → Prop}, (∀ y ∈ ys, ∃ i, y = .int i ∧ Q i) → ∃ is : List Int, ys = is.map .int ∧ is.length = ys.length ∧ ∀ i ∈ is, Q i
  | [], _, _ => ⟨[], rfl, rfl, fun i h => by cases h⟩
  | y :: ys, Q, h => by
    obtain ⟨i, rfl, hi⟩ := h y (by simp)
    obtain ⟨is, h1, h2, h3⟩ := ints_of_rel fun z hz => h z (List.mem_cons_of_mem _ hz)
    exact ⟨i :: is, by rw [h1]; rfl, by simp [h2], fun j hj => (List.mem_cons.mp hj).elim (fun e => e ▸ hi) (h3 j)⟩
theorem call_five (hP : Has P) (n : Nat) (c most : Int) (ws : List Str) (hw : ws.length = 6) (hm : 1 ≤ most) (hm2 : most ≤ 600000) : ∃ (rooms : List Int) (ps : List (Int × Int)) (th ap : List D) (p q : Int),
    call P (n + 2) "_law_five" [.int c, .fl (ws.map .str), .int most] [] = .ok (.ref 3) [.lst (ps.map rowD), .lst th, .lst ap, .lst [.fl (rooms.map .int), .ref 0, .ref 1, .ref 2, .tup [.int p, .int q]]] ∧
    (1 ≤ rooms.length ∧ rooms.length ≤ 4) ∧ (∀ r ∈ rooms, 1 ≤ r ∧ r ≤ most) ∧ RowsOk 5000000 ps ∧ ps.length ≤ 4 ∧ (∀ t ∈ th, ThickD t) ∧ (∀ t ∈ ap, ApartD t) ∧ th.length ≤ 36 ∧ ap.length ≤ 36 ∧ (0 ≤ p ∧ p < 5) ∧ (4 ≤ q ∧ q < 7) := by
  rw [call_fin hP.five (n + 1) [.int c, .fl (ws.map .str), .int most] [] rfl (by decide)]
  obtain ⟨v19, n19, a19, b19⟩ := frz_mix hP.mix n c 19 (by decide) (by decide)
  obtain ⟨v30, n30, a30, b30⟩ := frz_mix hP.mix n c 30 (by decide) (by decide)
  obtain ⟨v100, n100, a100, b100⟩ := frz_mix hP.mix n c 100 (by decide) (by decide)
  obtain ⟨v101, n101, a101, b101⟩ := frz_mix hP.mix n c 101 (by decide) (by decide)
  have z4 : (0 : Int) < 4 := by decide
  have z5 : (0 : Int) < 5 := by decide
  have z3 : (0 : Int) < 3 := by decide
  have zm : 0 < most := by omega
  have q19 := mod_in (v := v19) z4
  have q30 := mod_in (v := v30) z4
  have q100 := mod_in (v := v100) z5
  have q101 := mod_in (v := v101) z3
  -- the rooms
  obtain ⟨ys, e1, e2, e3⟩ := ev_comp (C := envOf P (n + 1)) (elt := .bin .add (.lit (.int 1)) (.bin .mod (.call true "_law_mix" (.cons (.var 0) (.cons (.bin .add (.lit (.int 20)) (.var 4)) .nil))) (.var 2))) (tg := .name 4) (it := .rng (.cons (.bin .add (.lit (.int 1)) (.bin .mod (.call true "_law_mix" (.cons (.var 0) (.cons (.lit (.int 19)) .nil))) (.lit (.int 4)))) .nil)) (own := [4])
    (σ := [some (.int c), some (.fl (ws.map .str)), some (.int most), none, none, none, none, none, none, none, none, none, none, none, none]) (S := []) (Rl := fun _ y => ∃ i, y = .int i ∧ (1 ≤ i ∧ i ≤ most)) (evi_rng1 (n := 1 + v19 % 4) (S1 := []) (by simp only [ev, evs, evo, evc, asg, asgs, exs_cons, exs_nil, ex, bind_ok, bind_exc, st_ok, st_exc, bind_nx, bind_ret, bind_brk, bind_cnt, bind_xc, fin_ret, fin_nx, fin_exc, asE_some, asB_ok, bop_add, bop_sub, bop_mul, bop_fdiv, bop_mod, cop_lt, cop_le, cop_gt, cop_ge, cop_eq, cop_ne, cop_eqb, cop_neb, blt_abs, blt_lenT, blt_lenL, flat, lLINE0, lLINE1, lLINE2, lLINE3, lLINE4, lLINE5, lLINE6, lLINE7, lLINE8, alloc, sub_fl, sub_tp, seqOf_tup, seqOf_fl, ↓ev_int, ↓ev_bl, ↓ev_str, ↓ev_non, List.getElem?_cons_zero, List.getElem?_cons_succ, List.set_cons_zero, List.set_cons_succ, List.length_cons, List.length_nil, List.map_cons, List.map_nil, List.replicate, List.nil_append, List.cons_append, List.append_nil, if_true, if_false, decide_true, decide_false, Bool.not_true, Bool.not_false, Bool.false_eq_true, Nat.reduceLT, Nat.reduceAdd, Nat.reduceSub, Nat.reduceLeDiff, Nat.zero_add, Nat.add_zero, Nat.sub_zero, Nat.lt_add_one, Nat.zero_lt_succ, and_true, and_self, true_and, ite_true, ite_false, n19, z4]) (by omega) (by omega)) trivial (by rw [rngD_len, LINE_num]; omega) (by
      intro z hz
      obtain ⟨i, hi, rfl⟩ := rng_mem hz
      obtain ⟨v, nv, av, bv⟩ := frz_mix hP.mix n c (20 + (i : Int)) (by omega) (by omega)
      have q := mod_in (v := v) zm
      exact ⟨_, .int (1 + v % most), by rfl, by simp only [ev, evs, evo, evc, asg, asgs, exs_cons, exs_nil, ex, bind_ok, bind_exc, st_ok, st_exc, bind_nx, bind_ret, bind_brk, bind_cnt, bind_xc, fin_ret, fin_nx, fin_exc, asE_some, asB_ok, bop_add, bop_sub, bop_mul, bop_fdiv, bop_mod, cop_lt, cop_le, cop_gt, cop_ge, cop_eq, cop_ne, cop_eqb, cop_neb, blt_abs, blt_lenT, blt_lenL, flat, lLINE0, lLINE1, lLINE2, lLINE3, lLINE4, lLINE5, lLINE6, lLINE7, lLINE8, alloc, sub_fl, sub_tp, seqOf_tup, seqOf_fl, ↓ev_int, ↓ev_bl, ↓ev_str, ↓ev_non, List.getElem?_cons_zero, List.getElem?_cons_succ, List.set_cons_zero, List.set_cons_succ, List.length_cons, List.length_nil, List.map_cons, List.map_nil, List.replicate, List.nil_append, List.cons_append, List.append_nil, if_true, if_false, decide_true, decide_false, Bool.not_true, Bool.not_false, Bool.false_eq_true, Nat.reduceLT, Nat.reduceAdd, Nat.reduceSub, Nat.reduceLeDiff, Nat.zero_add, Nat.add_zero, Nat.sub_zero, Nat.lt_add_one, Nat.zero_lt_succ, and_true, and_self, true_and, ite_true, ite_false, wipe, nv, zm], _, rfl, by omega, by omega⟩)
  obtain ⟨rooms, rfl, l1, l2⟩ := ints_of_rel (rel_mem e2 e3)
  rw [rngD_len] at e2
  -- the rows
  obtain ⟨σ1, S1, f1, ps, _, d, h, r1, r2, rfl, k1, rfl⟩ := rows_loop hP n c most (.fl (ws.map .str)) (.fl (rooms.map .int)) (v30 % 4) q30.1 (by omega) hm hm2
  obtain ⟨σ2, S2, g1, p2, th, ap, k, q, o, pr, t1, t2, t3, t4, rfl, rfl⟩ := pairs_loop hP n c most ws hw (.fl (rooms.map .int)) d h (ps.map rowD) [some (.int c), some (.fl (ws.map .str)), some (.int most), some (.fl (rooms.map .int)), k1, some (.ref 0), some d, some h, some (.ref 1), some (.ref 2), none, none, none, none, none] [.lst (ps.map rowD), .lst [], .lst []] none
    ⟨[], [], k1, none, none, none, fun t h => (by cases h), fun t h => (by cases h), by simp, by simp, rfl, rfl⟩
  refine ⟨rooms, ps, th, ap, v100 % 5, 4 + v101 % 3, ?_, by constructor <;> (rw [l1, e2]; omega), l2, r1, r2, t1, t2, t3, t4, q100, by omega⟩
  show fin (exs (envOf P (n + 1)) F_law_five.body [some (.int c), some (.fl (ws.map .str)), some (.int most), none, none, none, none, none, none, none, none, none, none, none, none] []) = _
  have run : exs (envOf P (n + 1)) F_law_five.body [some (.int c), some (.fl (ws.map .str)), some (.int most), none, none, none, none, none, none, none, none, none, none, none, none] [] =
      exs (envOf P (n + 1)) (dropS 8 F_law_five.body) [some (.int c), some (.fl (ws.map .str)), some (.int most), some (.fl (rooms.map .int)), k, some (.ref 0), some d, some h, some (.ref 1), some (.ref 2), p2, q, o, pr, none] [.lst (ps.map rowD), .lst th, .lst ap] := by
    refine (exs_nx (σ' := [some (.int c), some (.fl (ws.map .str)), some (.int most), some (.fl (rooms.map .int)), none, none, none, none, none, none, none, none, none, none, none]) (S' := []) (by rw [ex, e1, st_ok]; simp only [ev, evs, evo, evc, asg, asgs, exs_cons, exs_nil, ex, bind_ok, bind_exc, st_ok, st_exc, bind_nx, bind_ret, bind_brk, bind_cnt, bind_xc, fin_ret, fin_nx, fin_exc, asE_some, asB_ok, bop_add, bop_sub, bop_mul, bop_fdiv, bop_mod, cop_lt, cop_le, cop_gt, cop_ge, cop_eq, cop_ne, cop_eqb, cop_neb, blt_abs, blt_lenT, blt_lenL, flat, lLINE0, lLINE1, lLINE2, lLINE3, lLINE4, lLINE5, lLINE6, lLINE7, lLINE8, alloc, sub_fl, sub_tp, seqOf_tup, seqOf_fl, ↓ev_int, ↓ev_bl, ↓ev_str, ↓ev_non, List.getElem?_cons_zero, List.getElem?_cons_succ, List.set_cons_zero, List.set_cons_succ, List.length_cons, List.length_nil, List.map_cons, List.map_nil, List.replicate, List.nil_append, List.cons_append, List.append_nil, if_true, if_false, decide_true, decide_false, Bool.not_true, Bool.not_false, Bool.false_eq_true, Nat.reduceLT, Nat.reduceAdd, Nat.reduceSub, Nat.reduceLeDiff, Nat.zero_add, Nat.add_zero, Nat.sub_zero, Nat.lt_add_one, Nat.zero_lt_succ, and_true, and_self, true_and, ite_true, ite_false])).trans ?_
    refine (exs_nx (σ' := [some (.int c), some (.fl (ws.map .str)), some (.int most), some (.fl (rooms.map .int)), none, some (.ref 0), none, none, none, none, none, none, none, none, none]) (S' := [.lst []]) (by simp only [ev, evs, evo, evc, asg, asgs, exs_cons, exs_nil, ex, bind_ok, bind_exc, st_ok, st_exc, bind_nx, bind_ret, bind_brk, bind_cnt, bind_xc, fin_ret, fin_nx, fin_exc, asE_some, asB_ok, bop_add, bop_sub, bop_mul, bop_fdiv, bop_mod, cop_lt, cop_le, cop_gt, cop_ge, cop_eq, cop_ne, cop_eqb, cop_neb, blt_abs, blt_lenT, blt_lenL, flat, lLINE0, lLINE1, lLINE2, lLINE3, lLINE4, lLINE5, lLINE6, lLINE7, lLINE8, alloc, sub_fl, sub_tp, seqOf_tup, seqOf_fl, ↓ev_int, ↓ev_bl, ↓ev_str, ↓ev_non, List.getElem?_cons_zero, List.getElem?_cons_succ, List.set_cons_zero, List.set_cons_succ, List.length_cons, List.length_nil, List.map_cons, List.map_nil, List.replicate, List.nil_append, List.cons_append, List.append_nil, if_true, if_false, decide_true, decide_false, Bool.not_true, Bool.not_false, Bool.false_eq_true, Nat.reduceLT, Nat.reduceAdd, Nat.reduceSub, Nat.reduceLeDiff, Nat.zero_add, Nat.add_zero, Nat.sub_zero, Nat.lt_add_one, Nat.zero_lt_succ, and_true, and_self, true_and, ite_true, ite_false])).trans ?_
    refine (exs_nx (σ' := [some (.int c), some (.fl (ws.map .str)), some (.int most), some (.fl (rooms.map .int)), none, some (.ref 0), some (.int 0), none, none, none, none, none, none, none, none]) (S' := [.lst []]) (by simp only [ev, evs, evo, evc, asg, asgs, exs_cons, exs_nil, ex, bind_ok, bind_exc, st_ok, st_exc, bind_nx, bind_ret, bind_brk, bind_cnt, bind_xc, fin_ret, fin_nx, fin_exc, asE_some, asB_ok, bop_add, bop_sub, bop_mul, bop_fdiv, bop_mod, cop_lt, cop_le, cop_gt, cop_ge, cop_eq, cop_ne, cop_eqb, cop_neb, blt_abs, blt_lenT, blt_lenL, flat, lLINE0, lLINE1, lLINE2, lLINE3, lLINE4, lLINE5, lLINE6, lLINE7, lLINE8, alloc, sub_fl, sub_tp, seqOf_tup, seqOf_fl, ↓ev_int, ↓ev_bl, ↓ev_str, ↓ev_non, List.getElem?_cons_zero, List.getElem?_cons_succ, List.set_cons_zero, List.set_cons_succ, List.length_cons, List.length_nil, List.map_cons, List.map_nil, List.replicate, List.nil_append, List.cons_append, List.append_nil, if_true, if_false, decide_true, decide_false, Bool.not_true, Bool.not_false, Bool.false_eq_true, Nat.reduceLT, Nat.reduceAdd, Nat.reduceSub, Nat.reduceLeDiff, Nat.zero_add, Nat.add_zero, Nat.sub_zero, Nat.lt_add_one, Nat.zero_lt_succ, and_true, and_self, true_and, ite_true, ite_false])).trans ?_
    refine (exs_nx (σ' := [some (.int c), some (.fl (ws.map .str)), some (.int most), some (.fl (rooms.map .int)), none, some (.ref 0), some (.int 0), some (.int 0), none, none, none, none, none, none, none]) (S' := [.lst []]) (by simp only [ev, evs, evo, evc, asg, asgs, exs_cons, exs_nil, ex, bind_ok, bind_exc, st_ok, st_exc, bind_nx, bind_ret, bind_brk, bind_cnt, bind_xc, fin_ret, fin_nx, fin_exc, asE_some, asB_ok, bop_add, bop_sub, bop_mul, bop_fdiv, bop_mod, cop_lt, cop_le, cop_gt, cop_ge, cop_eq, cop_ne, cop_eqb, cop_neb, blt_abs, blt_lenT, blt_lenL, flat, lLINE0, lLINE1, lLINE2, lLINE3, lLINE4, lLINE5, lLINE6, lLINE7, lLINE8, alloc, sub_fl, sub_tp, seqOf_tup, seqOf_fl, ↓ev_int, ↓ev_bl, ↓ev_str, ↓ev_non, List.getElem?_cons_zero, List.getElem?_cons_succ, List.set_cons_zero, List.set_cons_succ, List.length_cons, List.length_nil, List.map_cons, List.map_nil, List.replicate, List.nil_append, List.cons_append, List.append_nil, if_true, if_false, decide_true, decide_false, Bool.not_true, Bool.not_false, Bool.false_eq_true, Nat.reduceLT, Nat.reduceAdd, Nat.reduceSub, Nat.reduceLeDiff, Nat.zero_add, Nat.add_zero, Nat.sub_zero, Nat.lt_add_one, Nat.zero_lt_succ, and_true, and_self, true_and, ite_true, ite_false])).trans ?_
    refine (exs_nx (by rw [ex, evi_rng1 (n := v30 % 4) (S1 := [.lst []]) (by simp only [ev, evs, evo, evc, asg, asgs, exs_cons, exs_nil, ex, bind_ok, bind_exc, st_ok, st_exc, bind_nx, bind_ret, bind_brk, bind_cnt, bind_xc, fin_ret, fin_nx, fin_exc, asE_some, asB_ok, bop_add, bop_sub, bop_mul, bop_fdiv, bop_mod, cop_lt, cop_le, cop_gt, cop_ge, cop_eq, cop_ne, cop_eqb, cop_neb, blt_abs, blt_lenT, blt_lenL, flat, lLINE0, lLINE1, lLINE2, lLINE3, lLINE4, lLINE5, lLINE6, lLINE7, lLINE8, alloc, sub_fl, sub_tp, seqOf_tup, seqOf_fl, ↓ev_int, ↓ev_bl, ↓ev_str, ↓ev_non, List.getElem?_cons_zero, List.getElem?_cons_succ, List.set_cons_zero, List.set_cons_succ, List.length_cons, List.length_nil, List.map_cons, List.map_nil, List.replicate, List.nil_append, List.cons_append, List.append_nil, if_true, if_false, decide_true, decide_false, Bool.not_true, Bool.not_false, Bool.false_eq_true, Nat.reduceLT, Nat.reduceAdd, Nat.reduceSub, Nat.reduceLeDiff, Nat.zero_add, Nat.add_zero, Nat.sub_zero, Nat.lt_add_one, Nat.zero_lt_succ, and_true, and_self, true_and, ite_true, ite_false, n30, z4]) q30.1 (by omega), st_ok]; exact f1)).trans ?_
    refine (exs_nx (σ' := [some (.int c), some (.fl (ws.map .str)), some (.int most), some (.fl (rooms.map .int)), k1, some (.ref 0), some d, some h, some (.ref 1), none, none, none, none, none, none]) (S' := [.lst (ps.map rowD), .lst []]) (by simp only [ev, evs, evo, evc, asg, asgs, exs_cons, exs_nil, ex, bind_ok, bind_exc, st_ok, st_exc, bind_nx, bind_ret, bind_brk, bind_cnt, bind_xc, fin_ret, fin_nx, fin_exc, asE_some, asB_ok, bop_add, bop_sub, bop_mul, bop_fdiv, bop_mod, cop_lt, cop_le, cop_gt, cop_ge, cop_eq, cop_ne, cop_eqb, cop_neb, blt_abs, blt_lenT, blt_lenL, flat, lLINE0, lLINE1, lLINE2, lLINE3, lLINE4, lLINE5, lLINE6, lLINE7, lLINE8, alloc, sub_fl, sub_tp, seqOf_tup, seqOf_fl, ↓ev_int, ↓ev_bl, ↓ev_str, ↓ev_non, List.getElem?_cons_zero, List.getElem?_cons_succ, List.set_cons_zero, List.set_cons_succ, List.length_cons, List.length_nil, List.map_cons, List.map_nil, List.replicate, List.nil_append, List.cons_append, List.append_nil, if_true, if_false, decide_true, decide_false, Bool.not_true, Bool.not_false, Bool.false_eq_true, Nat.reduceLT, Nat.reduceAdd, Nat.reduceSub, Nat.reduceLeDiff, Nat.zero_add, Nat.add_zero, Nat.sub_zero, Nat.lt_add_one, Nat.zero_lt_succ, and_true, and_self, true_and, ite_true, ite_false])).trans ?_
    refine (exs_nx (σ' := [some (.int c), some (.fl (ws.map .str)), some (.int most), some (.fl (rooms.map .int)), k1, some (.ref 0), some d, some h, some (.ref 1), some (.ref 2), none, none, none, none, none]) (S' := [.lst (ps.map rowD), .lst [], .lst []]) (by simp only [ev, evs, evo, evc, asg, asgs, exs_cons, exs_nil, ex, bind_ok, bind_exc, st_ok, st_exc, bind_nx, bind_ret, bind_brk, bind_cnt, bind_xc, fin_ret, fin_nx, fin_exc, asE_some, asB_ok, bop_add, bop_sub, bop_mul, bop_fdiv, bop_mod, cop_lt, cop_le, cop_gt, cop_ge, cop_eq, cop_ne, cop_eqb, cop_neb, blt_abs, blt_lenT, blt_lenL, flat, lLINE0, lLINE1, lLINE2, lLINE3, lLINE4, lLINE5, lLINE6, lLINE7, lLINE8, alloc, sub_fl, sub_tp, seqOf_tup, seqOf_fl, ↓ev_int, ↓ev_bl, ↓ev_str, ↓ev_non, List.getElem?_cons_zero, List.getElem?_cons_succ, List.set_cons_zero, List.set_cons_succ, List.length_cons, List.length_nil, List.map_cons, List.map_nil, List.replicate, List.nil_append, List.cons_append, List.append_nil, if_true, if_false, decide_true, decide_false, Bool.not_true, Bool.not_false, Bool.false_eq_true, Nat.reduceLT, Nat.reduceAdd, Nat.reduceSub, Nat.reduceLeDiff, Nat.zero_add, Nat.add_zero, Nat.sub_zero, Nat.lt_add_one, Nat.zero_lt_succ, and_true, and_self, true_and, ite_true, ite_false])).trans ?_
    exact exs_nx (by rw [ex, evi_rng1 (n := 6) (S1 := [.lst (ps.map rowD), .lst [], .lst []]) (by simp only [ev, evs, evo, evc, asg, asgs, exs_cons, exs_nil, ex, bind_ok, bind_exc, st_ok, st_exc, bind_nx, bind_ret, bind_brk, bind_cnt, bind_xc, fin_ret, fin_nx, fin_exc, asE_some, asB_ok, bop_add, bop_sub, bop_mul, bop_fdiv, bop_mod, cop_lt, cop_le, cop_gt, cop_ge, cop_eq, cop_ne, cop_eqb, cop_neb, blt_abs, blt_lenT, blt_lenL, flat, lLINE0, lLINE1, lLINE2, lLINE3, lLINE4, lLINE5, lLINE6, lLINE7, lLINE8, alloc, sub_fl, sub_tp, seqOf_tup, seqOf_fl, ↓ev_int, ↓ev_bl, ↓ev_str, ↓ev_non, List.getElem?_cons_zero, List.getElem?_cons_succ, List.set_cons_zero, List.set_cons_succ, List.length_cons, List.length_nil, List.map_cons, List.map_nil, List.replicate, List.nil_append, List.cons_append, List.append_nil, if_true, if_false, decide_true, decide_false, Bool.not_true, Bool.not_false, Bool.false_eq_true, Nat.reduceLT, Nat.reduceAdd, Nat.reduceSub, Nat.reduceLeDiff, Nat.zero_add, Nat.add_zero, Nat.sub_zero, Nat.lt_add_one, Nat.zero_lt_succ, and_true, and_self, true_and, ite_true, ite_false]) (by decide) (by decide), st_ok]; exact g1)
  rw [run]
  show fin (exs _ (.cons _ (.cons (.ret _) .nil)) _ _) = _
  simp only [ev, evs, evo, evc, asg, asgs, exs_cons, exs_nil, ex, bind_ok, bind_exc, st_ok, st_exc, bind_nx, bind_ret, bind_brk, bind_cnt, bind_xc, fin_ret, fin_nx, fin_exc, asE_some, asB_ok, bop_add, bop_sub, bop_mul, bop_fdiv, bop_mod, cop_lt, cop_le, cop_gt, cop_ge, cop_eq, cop_ne, cop_eqb, cop_neb, blt_abs, blt_lenT, blt_lenL, flat, lLINE0, lLINE1, lLINE2, lLINE3, lLINE4, lLINE5, lLINE6, lLINE7, lLINE8, alloc, sub_fl, sub_tp, seqOf_tup, seqOf_fl, ↓ev_int, ↓ev_bl, ↓ev_str, ↓ev_non, List.getElem?_cons_zero, List.getElem?_cons_succ, List.set_cons_zero, List.set_cons_succ, List.length_cons, List.length_nil, List.map_cons, List.map_nil, List.replicate, List.nil_append, List.cons_append, List.append_nil, if_true, if_false, decide_true, decide_false, Bool.not_true, Bool.not_false, Bool.false_eq_true, Nat.reduceLT, Nat.reduceAdd, Nat.reduceSub, Nat.reduceLeDiff, Nat.zero_add, Nat.add_zero, Nat.sub_zero, Nat.lt_add_one, Nat.zero_lt_succ, and_true, and_self, true_and, ite_true, ite_false, n100, n101, z5, z3]
end
end E1.Com

set_option maxHeartbeats 2000000
namespace E1.Fi
open PySem (Str)
open E1 E1.Com
def pN : List String := ["rooms", "table", "thick", "apart", "pig"]
def PT (a b c d e : D) : D := .obj "Pipe" pN [a, b, c, d, e]
theorem at_rooms (a b c d e : D) (S : Store) : attF S (PT a b c d e) "rooms" = some a := by rfl
theorem at_table (a b c d e : D) (S : Store) : attF S (PT a b c d e) "table" = some b := by rfl
theorem set_att {C : E1.Env} {S0 : Store} {ns : List String} {vs : List D} {f : String} {v : D} (hl : ns.length < 900) (hf : (C.fld "Pipe").contains f = true) :
    setAtt C (S0 ++ [.ins "Pipe" ns vs]) (.ref S0.length) f v = some (S0 ++ [.ins "Pipe" (putF f v ns vs).1 (putF f v ns vs).2]) := by
  have h : (S0 ++ [Cell.ins "Pipe" ns vs])[S0.length]? = some (.ins "Pipe" ns vs) := by simp
  simp only [setAtt, h]
  rw [if_pos ⟨hl, hf⟩]
  simp
theorem asg_att {C : E1.Env} {o : Ex} {f : String} {d v : D} {σ : Slots} {S S' : Store} (ho : ev C o σ S = .ok v S) (h : setAtt C S v f d = some S') : asg C (.att o f) d σ S = .ok σ S' := by
  rw [asg, ho, bind_ok, h]
theorem blt_listF {x : D} {xs : List D} {S : Store} (h : seqOf S x = some xs) (hl : xs.length ≤ LINE) : blt (.list false) [x] S = .ok (.fl xs) S := by
  show (match seqOf S x with | some xs => alloc false xs S | none => .no) = _
  rw [h]; exact alloc_fl hl
theorem slc_fl {C : E1.Env} {a : Ex} {lo hi : OEx} {σ : Slots} {S : Store} {x : D} {xs : List D} {l h : Option Int} (ha : ev C a σ S = .ok x S) (hx : rbl S x = .fl xs) (hl : evo C lo σ S = .ok l S) (hh : evo C hi σ S = .ok h S) (hz : xs.length ≤ LINE) : ev C (.slc false a lo hi) σ S = .ok (.fl (cut xs l h)) S := by
  rw [ev, ha, bind_ok, hl, bind_ok, hh, bind_ok]
  simp only [hx]
  exact alloc_fl (Nat.le_trans cut_len hz)
theorem ints_map : ∀ is : List Int, ints? (is.map D.int) = some is
  | [] => rfl
  | i :: is => by
    show (ints? (is.map D.int)).map (i :: ·) = _
    rw [ints_map is]; rfl
theorem cut_map {is : List Int} {l h : Option Int} : cut (is.map D.int) l h = (cut is l h).map D.int := by
  unfold cut
  rw [List.map_take, List.map_drop, List.length_map]
theorem blt_sum {is : List Int} {S : Store} : blt .sum [.fl (is.map .int)] S = .ok (.int is.sum) S := by
  have h : listOf S (.fl (is.map .int)) = some (is.map .int) := rfl
  simp only [blt, h, ints_map]
theorem cut_nat {α : Type} {xs : List α} {k : Nat} : cut xs none (some (k : Int)) = xs.take k := by
  unfold cut cut1
  simp only [List.drop_zero, Nat.sub_zero]
  rw [if_neg (by omega)]
  simp [List.take_eq_take_iff]
theorem compL_filter {asg : D → Slots → Store → R Slots} {tst : Slots → Store → R Bool} {elt : Slots → Store → R D} {own : List Nat} {σ : Slots} {S : Store} {α : Type} (g : α → D) (b : α → Bool) : ∀ {xs : List α} {acc : List D}, xs.length + acc.length ≤ LINE →
    (∀ x ∈ xs, ∃ σ2, asg (g x) (wipe σ own) S = .ok σ2 S ∧ tst σ2 S = .ok (b x) S ∧ elt σ2 S = .ok (g x) S) → compL asg tst elt own none σ (xs.map g) acc S = .ok (acc ++ (xs.filter b).map g) S
  | [], acc, _, _ => by unfold compL; rw [List.map_nil]; simp [stands]
  | x :: xs, acc, hl, h => by
    obtain ⟨σ2, h1, h2, h3⟩ := h x (by simp)
    rw [List.map_cons]
    unfold compL
    rw [if_pos ⟨trivial, by simp at hl; omega⟩, h1]
    simp only [h2]
    cases hb : b x with
    | true =>
      simp only [h3]
      rw [compL_filter g b (by simp at hl ⊢; omega) fun z hz => h z (List.mem_cons_of_mem _ hz), List.filter_cons_of_pos hb, List.append_assoc]; rfl
    | false =>
      simp only []
      rw [compL_filter g b (by simp at hl ⊢; omega) fun z hz => h z (List.mem_cons_of_mem _ hz), List.filter_cons_of_neg (by simp [hb])]
theorem at_zero (x : D) (r : List D) : at? (x :: r) 0 = some x := by
  unfold at? ixN
  rw [if_pos (by decide), if_pos (by simp)]; rfl
theorem at_last {xs : List D} {d : D} (h : xs.getLast? = some d) : at? xs (-1) = some d := by
  have hne : xs ≠ [] := fun e => by rw [e] at h; cases h
  have hl : 0 < xs.length := List.length_pos_iff.mpr hne
  unfold at? ixN
  rw [if_neg (by omega), if_pos (by omega)]
  show xs[(-1 + (xs.length : Int)).toNat]? = _
  rw [show (-1 + (xs.length : Int)).toNat = xs.length - 1 by omega, ← List.getLast?_eq_getElem?]; exact h
theorem bop_lst {x y : D} {xs ys : List D} {S : Store} (hx : listM S x = some xs) (hy : listM S y = some ys) (nx : ∀ a as, x ≠ .tup (a :: as)) (ns : ∀ s, x ≠ .str s) (ni : ∀ i, x ≠ .int i) (h : xs.length + ys.length ≤ LINE) : bop .add x y S = .ok (.fl (xs ++ ys)) S := by
  have e : bop .add x y S = match listM S x, listM S y with
    | some xs, some ys => if xs.length + ys.length ≤ LINE then alloc false (xs ++ ys) S else .no
    | _, _ => .no := by
    cases x with
    | int i => exact absurd rfl (ni i)
    | str s => exact absurd rfl (ns s)
    | tup as => cases as with
      | nil => rfl
      | cons a as => exact absurd rfl (nx a as)
    | _ => rfl
  rw [e, hx, hy]
  show (if _ then _ else _) = _
  rw [if_pos h, alloc_fl (by rw [List.length_append]; exact h)]
theorem compL_cons {asg : D → Slots → Store → R Slots} {tst : Slots → Store → R Bool} {elt : Slots → Store → R D} {own : List Nat} {ck : Option (Nat × List D)} {σ σ2 : Slots} {x y : D} {r acc : List D} {S S2 S3 S4 : Store} (h0 : stands S ck) (hl : acc.length < LINE) (h1 : asg x (wipe σ own) S = .ok σ2 S2) (h2 : tst σ2 S2 = .ok true S3) (h3 : elt σ2 S3 = .ok y S4) :
    compL asg tst elt own ck σ (x :: r) acc S = compL asg tst elt own ck σ r (acc ++ [y]) S4 := by
  conv => lhs; unfold compL
  rw [if_pos ⟨h0, hl⟩, h1]
  simp only [h2, h3]
theorem compL_nil {asg : D → Slots → Store → R Slots} {tst : Slots → Store → R Bool} {elt : Slots → Store → R D} {own : List Nat} {ck : Option (Nat × List D)} {σ : Slots} {acc : List D} {S : Store} (h0 : stands S ck) : compL asg tst elt own ck σ [] acc S = .ok acc S := by unfold compL; rw [if_pos h0]
theorem blt_listT {x : D} {xs : List D} {S : Store} (h : seqOf S x = some xs) (hl : xs.length ≤ LINE) : blt (.list true) [x] S = .ok (.ref S.length) (S ++ [.lst xs]) := by
  show (match seqOf S x with | some xs => alloc true xs S | none => .no) = _
  rw [h]
  show alloc true xs S = _
  unfold alloc
  rw [if_pos hl]; rfl
theorem mapM_self {k : Nat} {S : Store} : ∀ {xs : List D}, norefs xs = true → xs.mapM (frz k S) = some xs
  | [], _ => rfl
  | x :: xs, h => by
    simp only [norefs, Bool.and_eq_true] at h
    rw [List.mapM_cons, frz_self h.1, mapM_self h.2]; rfl
theorem frz_cell {k i : Nat} {S : Store} {xs : List D} (h : S[i]? = some (.lst xs)) (hn : norefs xs = true) : frz (k + 1) S (.ref i) = some (.fl xs) := by
  have hr : rb S (.ref i) = .fl xs := by simp only [rb, h]
  simp only [frz]
  rw [if_neg (by simp [noref]), hr]
  show (xs.mapM (frz k S)).map D.fl = _
  rw [mapM_self hn]; rfl
theorem deqB_refl : ∀ (k : Nat) (d : D), dataK k d = true → deqB d d = true := by
  intro k
  induction k with
  | zero => intro d h; cases d <;> simp_all [dataK, deqB]
  | succ k ih =>
    have all : ∀ xs : List D, xs.all (dataK k) = true → deqBs xs xs = true := by
      intro xs
      induction xs with
      | nil => intro _; rfl
      | cons x xs ihx =>
        intro h
        rw [List.all_cons, Bool.and_eq_true] at h
        simp only [deqBs, Bool.and_eq_true]
        exact ⟨ih x h.1, ihx h.2⟩
    intro d h
    cases d with
    | tup xs => simp only [deqB]; exact all xs (by simpa [dataK] using h)
    | fl xs => simp only [deqB]; exact all xs (by simpa [dataK] using h)
    | _ => simp_all [dataK, deqB]
theorem ev_head2 {C : E1.Env} {i : Nat} {j k m : Int} {σ : Slots} {S : Store} {ns : List Int} (h : σ[i]? = some (some (.scr ns))) (hl : ns.length ≤ 63) :
    ∃ xs, ev C (.bin .add (.slc false (.var i) (.so (.lit (.int j))) (.so (.lit (.int k)))) (.lst false (.cons (.lit (.int m)) .nil))) σ S = .ok (.fl xs) S ∧ xs.length ≤ 64 ∧ ∀ d ∈ xs, ∃ c, d = .int c := by
  have hc : (cut (ns.map D.int) (some j) (some k)).length ≤ 63 := Nat.le_trans cut_len (by simpa using hl)
  refine ⟨cut (ns.map D.int) (some j) (some k) ++ [.int m], ?_, by simp; omega, fun d hd => ?_⟩
  · have e1 := slc_fl (C := C) (a := .var i) (lo := .so (.lit (.int j))) (hi := .so (.lit (.int k))) (σ := σ) (S := S) (x := .scr ns) (xs := ns.map .int) (l := some j) (h := some k) (by rw [ev, h]) rfl (by simp only [ev, evs, evo, evc, asg, asgs, exs_cons, exs_nil, ex, bind_ok, bind_exc, st_ok, st_exc, bind_nx, bind_ret, bind_brk, bind_cnt, bind_xc, fin_ret, fin_nx, fin_exc, asE_some, asB_ok, bop_add, bop_sub, bop_mul, bop_fdiv, bop_mod, cop_lt, cop_le, cop_gt, cop_ge, cop_eq, cop_ne, cop_eqb, cop_neb, blt_abs, blt_lenT, blt_lenL, flat, lLINE0, lLINE1, lLINE2, lLINE3, lLINE4, lLINE5, lLINE6, lLINE7, lLINE8, alloc, sub_fl, sub_tp, seqOf_tup, seqOf_fl, ↓ev_int, ↓ev_bl, ↓ev_str, ↓ev_non, List.getElem?_cons_zero, List.getElem?_cons_succ, List.set_cons_zero, List.set_cons_succ, List.length_cons, List.length_nil, List.map_cons, List.map_nil, List.replicate, List.nil_append, List.cons_append, List.append_nil, if_true, if_false, decide_true, decide_false, Bool.not_true, Bool.not_false, Bool.false_eq_true, Nat.reduceLT, Nat.reduceAdd, Nat.reduceSub, Nat.reduceLeDiff, Nat.zero_add, Nat.add_zero, Nat.sub_zero, Nat.lt_add_one, Nat.zero_lt_succ, and_true, and_self, true_and, ite_true, ite_false]) (by simp only [ev, evs, evo, evc, asg, asgs, exs_cons, exs_nil, ex, bind_ok, bind_exc, st_ok, st_exc, bind_nx, bind_ret, bind_brk, bind_cnt, bind_xc, fin_ret, fin_nx, fin_exc, asE_some, asB_ok, bop_add, bop_sub, bop_mul, bop_fdiv, bop_mod, cop_lt, cop_le, cop_gt, cop_ge, cop_eq, cop_ne, cop_eqb, cop_neb, blt_abs, blt_lenT, blt_lenL, flat, lLINE0, lLINE1, lLINE2, lLINE3, lLINE4, lLINE5, lLINE6, lLINE7, lLINE8, alloc, sub_fl, sub_tp, seqOf_tup, seqOf_fl, ↓ev_int, ↓ev_bl, ↓ev_str, ↓ev_non, List.getElem?_cons_zero, List.getElem?_cons_succ, List.set_cons_zero, List.set_cons_succ, List.length_cons, List.length_nil, List.map_cons, List.map_nil, List.replicate, List.nil_append, List.cons_append, List.append_nil, if_true, if_false, decide_true, decide_false, Bool.not_true, Bool.not_false, Bool.false_eq_true, Nat.reduceLT, Nat.reduceAdd, Nat.reduceSub, Nat.reduceLeDiff, Nat.zero_add, Nat.add_zero, Nat.sub_zero, Nat.lt_add_one, Nat.zero_lt_succ, and_true, and_self, true_and, ite_true, ite_false]) (by simp [LINE_num]; omega)
    rw [ev, e1, bind_ok, show ev C (.lst false (.cons (.lit (.int m)) .nil)) σ S = .ok (.fl [.int m]) S from by simp only [ev, evs, evo, evc, asg, asgs, exs_cons, exs_nil, ex, bind_ok, bind_exc, st_ok, st_exc, bind_nx, bind_ret, bind_brk, bind_cnt, bind_xc, fin_ret, fin_nx, fin_exc, asE_some, asB_ok, bop_add, bop_sub, bop_mul, bop_fdiv, bop_mod, cop_lt, cop_le, cop_gt, cop_ge, cop_eq, cop_ne, cop_eqb, cop_neb, blt_abs, blt_lenT, blt_lenL, flat, lLINE0, lLINE1, lLINE2, lLINE3, lLINE4, lLINE5, lLINE6, lLINE7, lLINE8, alloc, sub_fl, sub_tp, seqOf_tup, seqOf_fl, ↓ev_int, ↓ev_bl, ↓ev_str, ↓ev_non, List.getElem?_cons_zero, List.getElem?_cons_succ, List.set_cons_zero, List.set_cons_succ, List.length_cons, List.length_nil, List.map_cons, List.map_nil, List.replicate, List.nil_append, List.cons_append, List.append_nil, if_true, if_false, decide_true, decide_false, Bool.not_true, Bool.not_false, Bool.false_eq_true, Nat.reduceLT, Nat.reduceAdd, Nat.reduceSub, Nat.reduceLeDiff, Nat.zero_add, Nat.add_zero, Nat.sub_zero, Nat.lt_add_one, Nat.zero_lt_succ, and_true, and_self, true_and, ite_true, ite_false], bind_ok, bop_lst (xs := cut (ns.map D.int) (some j) (some k)) (ys := [.int m]) rfl rfl (by simp) (by simp) (by simp) (by simp [LINE_num]; omega)]
  · rw [List.mem_append] at hd
    rcases hd with hd | hd
    · obtain ⟨c, _, rfl⟩ := List.mem_map.mp (cut_mem hd); exact ⟨c, rfl⟩
    · exact ⟨m, by simpa using hd⟩
theorem ev_sum {C : E1.Env} {i : Nat} {k : Int} {σ : Slots} {S : Store} {ns : List Int} (h : σ[i]? = some (some (.scr ns))) (hl : ns.length ≤ 63) : ev C (.blt .sum (.cons (.slc false (.var i) .no (.so (.lit (.int k)))) .nil)) σ S = .ok (.int (cut ns none (some k)).sum) S := by
  have e1 := slc_fl (C := C) (a := .var i) (lo := .no) (hi := .so (.lit (.int k))) (σ := σ) (S := S) (x := .scr ns) (xs := ns.map .int) (l := none) (h := some k) (by rw [ev, h]) rfl (by rw [evo]) (by simp only [ev, evs, evo, evc, asg, asgs, exs_cons, exs_nil, ex, bind_ok, bind_exc, st_ok, st_exc, bind_nx, bind_ret, bind_brk, bind_cnt, bind_xc, fin_ret, fin_nx, fin_exc, asE_some, asB_ok, bop_add, bop_sub, bop_mul, bop_fdiv, bop_mod, cop_lt, cop_le, cop_gt, cop_ge, cop_eq, cop_ne, cop_eqb, cop_neb, blt_abs, blt_lenT, blt_lenL, flat, lLINE0, lLINE1, lLINE2, lLINE3, lLINE4, lLINE5, lLINE6, lLINE7, lLINE8, alloc, sub_fl, sub_tp, seqOf_tup, seqOf_fl, ↓ev_int, ↓ev_bl, ↓ev_str, ↓ev_non, List.getElem?_cons_zero, List.getElem?_cons_succ, List.set_cons_zero, List.set_cons_succ, List.length_cons, List.length_nil, List.map_cons, List.map_nil, List.replicate, List.nil_append, List.cons_append, List.append_nil, if_true, if_false, decide_true, decide_false, Bool.not_true, Bool.not_false, Bool.false_eq_true, Nat.reduceLT, Nat.reduceAdd, Nat.reduceSub, Nat.reduceLeDiff, Nat.zero_add, Nat.add_zero, Nat.sub_zero, Nat.lt_add_one, Nat.zero_lt_succ, and_true, and_self, true_and, ite_true, ite_false]) (by simp [LINE_num]; omega)
  rw [ev, evs, e1, bind_ok, evs, bind_ok, bind_ok, cut_map, blt_sum]
theorem norefs_rows : ∀ ps : List (Int × Int), norefs (ps.map rowD) = true
  | [] => rfl
  | p :: ps => by simp [norefs, noref, rowD, norefs_rows ps]
theorem norefs_ints : ∀ is : List Int, norefs (is.map D.int) = true
  | [] => rfl
  | p :: ps => by simp [norefs, noref, norefs_ints ps]
theorem norefs_of {xs : List D} (h : ∀ x ∈ xs, noref x = true) : norefs xs = true := by
  induction xs with
  | nil => rfl
  | cons x xs ih => simp only [norefs, Bool.and_eq_true]; exact ⟨h x (by simp), ih fun y hy => h y (List.mem_cons_of_mem _ hy)⟩
theorem sum_take {is : List Int} {i : Nat} : (is.take (i + 1)).sum = (is.take i).sum + (is ++ [0]).getD i 0 := by
  by_cases h : i < is.length
  · rw [List.take_succ_eq_append_getElem h, List.sum_append, List.getD_eq_getElem?_getD, List.getElem?_append_left h, List.getElem?_eq_getElem h]
    simp
  · rw [List.take_of_length_le (by omega), List.take_of_length_le (by omega)]
    by_cases h2 : i = is.length
    · subst h2; simp
    · rw [List.getD_eq_getElem?_getD, List.getElem?_eq_none (by simp; omega)]; simp
theorem row0 (p : Int × Int) (S : Store) : subF S (rowD p) (.int 0) = some (.int p.1) := by rfl
theorem row1 (p : Int × Int) (S : Store) : subF S (rowD p) (.int 1) = some (.int p.2) := by rfl
theorem init_step {C : E1.Env} {S0 : Store} {ns : List String} {vs : List D} {f : String} {v : D} {σ : Slots} {e : Ex} (he : ev C e σ (S0 ++ [.ins "Pipe" ns vs]) = .ok v (S0 ++ [.ins "Pipe" ns vs])) (h0 : σ[0]? = some (some (.ref S0.length))) (hl : ns.length < 900) (hf : (C.fld "Pipe").contains f = true) :
    ex C (.asg (.att (.var 0) f) e) σ (S0 ++ [.ins "Pipe" ns vs]) = .nx σ (S0 ++ [.ins "Pipe" (putF f v ns vs).1 (putF f v ns vs).2]) := by
  have h1 : ev C (.var 0) σ (S0 ++ [.ins "Pipe" ns vs]) = .ok (.ref S0.length) (S0 ++ [.ins "Pipe" ns vs]) := by rw [ev, h0]
  rw [ex, he, st_ok, asg_att h1 (set_att hl hf)]

def F_Pipe___init__ : Def := ⟨6, 6, (.cons (.asg (.att (.var 0) "rooms") (.blt (.list true) (.cons (.var 1) .nil)))
  (.cons (.asg (.att (.var 0) "table") (.blt (.list true) (.cons (.var 2) .nil)))
  (.cons (.asg (.att (.var 0) "thick") (.blt (.list true) (.cons (.var 3) .nil)))
  (.cons (.asg (.att (.var 0) "apart") (.blt (.list true) (.cons (.var 4) .nil)))
  (.cons (.asg (.att (.var 0) "pig") (.var 5))
  .nil)))))⟩
def F_place_of : Def := ⟨2, 2, (.cons (.ret (.blt .sum (.cons (.slc false (.att (.var 0) "rooms") .no (.so (.var 1))) .nil)))
  .nil)⟩
def F_are_apart : Def := ⟨3, 3, (.cons (.ret (.or (.cmp .inn (.tup (.cons (.var 1) (.cons (.var 2) .nil))) (.att (.var 0) "apart")) (.cmp .inn (.tup (.cons (.var 2) (.cons (.var 1) .nil))) (.att (.var 0) "apart"))))
  .nil)⟩
def F_joined_rows : Def := ⟨1, 4, (.cons (.asg (.name 1) (.lst true .nil))
  (.cons (.for_ (.tup (.cons (.name 2) (.cons (.name 3) .nil))) (.ex (.var 0))
  (.cons (.ite (.and (.cmp .gt (.blt .len (.cons (.var 1) .nil)) (.lit (.int 0))) (.cmp .eq (.sub (.sub (.var 1) (.neg (.lit (.int 1)))) (.lit (.int 0))) (.var 2)))
  (.cons (.asg (.sub (.var 1) (.neg (.lit (.int 1)))) (.tup (.cons (.var 2) (.cons (.bin .add (.sub (.sub (.var 1) (.neg (.lit (.int 1)))) (.lit (.int 1))) (.var 3)) .nil))))
  .nil)
  (.cons (.expr (.bm "append" false (.var 1) (.cons (.tup (.cons (.var 2) (.cons (.var 3) .nil))) .nil)))
  .nil))
  .nil))
  (.cons (.ret (.var 1))
  .nil)))⟩
def F_rows_between : Def := ⟨3, 8, (.cons (.asg (.name 3) (.lst true .nil))
  (.cons (.asg (.name 4) (.lit (.int 0)))
  (.cons (.for_ (.tup (.cons (.name 5) (.cons (.name 6) .nil))) (.ex (.var 0))
  (.cons (.asg (.name 7) (.blt .max2 (.cons (.var 1) (.cons (.var 4) .nil))))
  (.cons (.aug 4 .add (.var 6))
  (.cons (.ite (.cmp .gt (.blt .min2 (.cons (.var 2) (.cons (.var 4) .nil))) (.var 7))
  (.cons (.expr (.bm "append" false (.var 3) (.cons (.tup (.cons (.var 5) (.cons (.bin .sub (.blt .min2 (.cons (.var 2) (.cons (.var 4) .nil))) (.var 7)) .nil))) .nil)))
  .nil)
  .nil)
  .nil))))
  (.cons (.ret (.var 3))
  .nil))))⟩
def F_inner_places : Def := ⟨1, 5, (.cons (.asg (.name 1) (.lst true .nil))
  (.cons (.asg (.name 2) (.lit (.int 0)))
  (.cons (.for_ (.tup (.cons (.name 3) (.cons (.name 4) .nil))) (.ex (.var 0))
  (.cons (.ite (.cmp .gt (.var 2) (.lit (.int 0)))
  (.cons (.expr (.bm "append" false (.var 1) (.cons (.var 2) .nil)))
  .nil)
  .nil)
  (.cons (.aug 2 .add (.var 4))
  .nil)))
  (.cons (.ret (.var 1))
  .nil))))⟩
def F_end_place : Def := ⟨1, 1, (.cons (.ret (.call true "place_of" (.cons (.var 0) (.cons (.blt .len (.cons (.att (.var 0) "rooms") .nil)) .nil))))
  .nil)⟩
def F_first_apart : Def := ⟨2, 4, (.cons (.for_ (.tup (.cons (.name 2) (.cons (.name 3) .nil))) (.zip (.var 1) (.slc false (.var 1) (.so (.lit (.int 1))) .no))
  (.cons (.ite (.call true "are_apart" (.cons (.var 0) (.cons (.sub (.var 2) (.lit (.int 0))) (.cons (.sub (.var 3) (.lit (.int 0))) .nil))))
  (.cons (.ret (.tup (.cons (.sub (.var 2) (.lit (.int 0))) (.cons (.sub (.var 3) (.lit (.int 0))) .nil))))
  .nil)
  .nil)
  .nil))
  (.cons (.ret (.lit .non))
  .nil))⟩
def F_Content___init__ : Def := ⟨3, 6, (.cons (.asg (.att (.var 0) "pipe") (.make false "Pipe" (.cons (.att (.var 1) "rooms") (.cons (.att (.var 1) "table") (.cons (.att (.var 1) "thick") (.cons (.att (.var 1) "apart") (.cons (.att (.var 1) "pig") .nil)))))))
  (.cons (.asg (.att (.var 0) "row_kept") (.call false "joined_rows" (.cons (.var 2) .nil)))
  (.cons (.ite (.cmp .ne (.blt .sum (.cons (.comp false (.var 4) (.tup (.cons (.name 3) (.cons (.name 4) .nil))) (.ex (.var 2)) .no [3, 4]) .nil)) (.call true "end_place" (.cons (.var 1) .nil)))
  (.cons (.raise "BadFill" (.cons (.lit (.str "a fill that is not as great as the pipe")) .nil))
  .nil)
  .nil)
  (.cons (.asg (.name 5) (.call true "first_apart" (.cons (.var 1) (.cons (.att (.var 0) "row_kept") .nil))))
  (.cons (.ite (.cmp .notN (.var 5) (.lit .non))
  (.cons (.raise "Touch" (.cons (.var 5) .nil))
  .nil)
  .nil)
  (.cons (.asg (.att (.var 0) "sinces_kept") (.call false "inner_places" (.cons (.att (.var 0) "row_kept") .nil)))
  (.cons (.asg (.att (.var 0) "pigs_kept") (.lst false .nil))
  .nil)))))))⟩
def F_stretches : Def := ⟨1, 1, (.cons (.ret (.blt (.list true) (.cons (.att (.var 0) "row_kept") .nil)))
  .nil)⟩
def F_meetings : Def := ⟨1, 3, (.cons (.ret (.comp true (.tup (.cons (.var 1) (.cons (.var 2) .nil))) (.tup (.cons (.name 1) (.cons (.name 2) .nil))) (.zip (.call true "inner_places" (.cons (.att (.var 0) "row_kept") .nil)) (.att (.var 0) "sinces_kept")) .no [1, 2]))
  .nil)⟩
def F_pigs : Def := ⟨1, 1, (.cons (.ret (.blt (.list true) (.cons (.att (.var 0) "pigs_kept") .nil)))
  .nil)⟩
def F_ware_at : Def := ⟨2, 2, (.cons (.ret (.sub (.sub (.call true "rows_between" (.cons (.att (.var 0) "row_kept") (.cons (.var 1) (.cons (.bin .add (.var 1) (.lit (.int 1))) .nil)))) (.lit (.int 0))) (.lit (.int 0))))
  .nil)⟩
def F_law_at : Def := ⟨2, 2, (.cons (.ite (.cmp .lt (.var 1) (.blt .len (.cons (.var 0) .nil)))
  (.cons (.ret (.sub (.var 0) (.var 1)))
  .nil)
  .nil)
  (.cons (.ret (.bin .sub (.blt .len (.cons (.var 0) .nil)) (.var 1)))
  .nil))⟩
def F_law_apart : Def := ⟨3, 3, (.cons (.ret (.or (.cmp .inn (.tup (.cons (.var 1) (.cons (.var 2) .nil))) (.sub (.var 0) (.lit (.int 3)))) (.cmp .inn (.tup (.cons (.var 2) (.cons (.var 1) .nil))) (.sub (.var 0) (.lit (.int 3))))))
  .nil)⟩
def F_law_fill : Def := ⟨3, 9, (.cons (.asg (.name 3) (.blt .sum (.cons (.sub (.var 0) (.lit (.int 0))) .nil)))
  (.cons (.asg (.name 4) (.lst true .nil))
  (.cons (.asg (.name 5) (.bin .fdiv (.blt .abs (.cons (.var 1) .nil)) (.lit (.int 2))))
  (.cons (.while_ (.cmp .gt (.var 3) (.lit (.int 0)))
  (.cons (.asg (.name 6) (.call true "_law_mix" (.cons (.var 1) (.cons (.bin .add (.lit (.int 200)) (.blt .len (.cons (.var 4) .nil))) .nil))))
  (.cons (.ite (.cmp .eq (.bin .mod (.var 1) (.lit (.int 2))) (.lit (.int 0)))
  (.cons (.asg (.name 6) (.bin .mod (.var 5) (.lit (.int 360))))
  (.cons (.asg (.name 5) (.bin .fdiv (.var 5) (.lit (.int 360))))
  .nil))
  .nil)
  (.cons (.asg (.name 7) (.sub (.var 2) (.bin .mod (.var 6) (.lit (.int 6)))))
  (.cons (.ite (.and (.cmp .gt (.blt .len (.cons (.var 4) .nil)) (.lit (.int 0))) (.call true "_law_apart" (.cons (.var 0) (.cons (.sub (.sub (.var 4) (.neg (.lit (.int 1)))) (.lit (.int 0))) (.cons (.var 7) .nil)))))
  (.cons (.asg (.name 7) (.sub (.sub (.var 4) (.neg (.lit (.int 1)))) (.lit (.int 0))))
  .nil)
  .nil)
  (.cons (.asg (.name 8) (.blt .min2 (.cons (.var 3) (.cons (.bin .add (.lit (.int 1)) (.bin .mod (.bin .fdiv (.var 6) (.lit (.int 6))) (.bin .add (.lit (.int 1)) (.blt .max2 (.cons (.lit (.int 5)) (.cons (.bin .fdiv (.blt .sum (.cons (.sub (.var 0) (.lit (.int 0))) .nil)) (.lit (.int 6))) .nil)))))) .nil))))
  (.cons (.ite (.cmp .gt (.blt .len (.cons (.var 4) .nil)) (.lit (.int 48)))
  (.cons (.asg (.name 8) (.var 3))
  .nil)
  .nil)
  (.cons (.expr (.bm "append" false (.var 4) (.cons (.tup (.cons (.var 7) (.cons (.var 8) .nil))) .nil)))
  (.cons (.asg (.name 3) (.bin .sub (.var 3) (.var 8)))
  .nil)))))))))
  (.cons (.ret (.var 4))
  .nil)))))⟩
def F_law_alike : Def := ⟨2, 4, (.cons (.ite (.isi (.var 1) ["list", "tuple"])
  (.cons (.ite (.or (.not (.isi (.var 0) ["list", "tuple"])) (.cmp .ne (.isi (.var 0) ["list"]) (.isi (.var 1) ["list"])))
  (.cons (.ret (.lit (.bl false)))
  .nil)
  .nil)
  (.cons (.ret (.and (.cmp .eq (.blt .len (.cons (.var 0) .nil)) (.blt .len (.cons (.var 1) .nil))) (.blt .all (.cons (.comp false (.call true "_law_alike" (.cons (.var 2) (.cons (.var 3) .nil))) (.tup (.cons (.name 2) (.cons (.name 3) .nil))) (.zip (.var 0) (.var 1)) .no [2, 3]) .nil))))
  .nil))
  .nil)
  (.cons (.ite (.isi (.var 1) ["str"])
  (.cons (.ret (.and (.isi (.var 0) ["str"]) (.cmp .eq (.var 0) (.var 1))))
  .nil)
  .nil)
  (.cons (.ret (.and (.isi (.var 0) ["int"]) (.and (.not (.isi (.var 0) ["bool"])) (.cmp .eq (.var 0) (.var 1)))))
  .nil)))⟩
def F_law_pipe : Def := ⟨1, 1, (.cons (.ret (.make false "Pipe" (.cons (.blt (.list false) (.cons (.sub (.var 0) (.lit (.int 0))) .nil)) (.cons (.blt (.list false) (.cons (.sub (.var 0) (.lit (.int 1))) .nil)) (.cons (.blt (.list false) (.cons (.sub (.var 0) (.lit (.int 2))) .nil)) (.cons (.blt (.list false) (.cons (.sub (.var 0) (.lit (.int 3))) .nil)) (.cons (.sub (.var 0) (.lit (.int 4))) .nil)))))))
  .nil)⟩
def F_law_begun : Def := ⟨2, 5, (.cons (.asg (.name 2) (.call true "_law_at" (.cons (.var 0) (.cons (.lit (.int 0)) .nil))))
  (.cons (.asg (.name 3) (.call true "_law_wares" (.cons (.var 2) .nil)))
  (.cons (.asg (.name 4) (.call true "_law_five" (.cons (.var 2) (.cons (.var 3) (.cons (.sub (.var 1) (.bin .mod (.call true "_law_mix" (.cons (.var 2) (.cons (.lit (.int 15)) .nil))) (.blt .len (.cons (.var 1) .nil)))) .nil)))))
  (.cons (.ret (.lst false (.cons (.var 3) (.cons (.var 4) (.cons (.call true "_law_fill" (.cons (.var 4) (.cons (.call true "_law_at" (.cons (.var 0) (.cons (.lit (.int 1)) .nil))) (.cons (.var 3) .nil)))) .nil)))))
  .nil))))⟩
def F_law_joined : Def := ⟨1, 4, (.cons (.asg (.name 1) (.lst true .nil))
  (.cons (.for_ (.tup (.cons (.name 2) (.cons (.name 3) .nil))) (.ex (.var 0))
  (.cons (.ite (.and (.cmp .gt (.blt .len (.cons (.var 1) .nil)) (.lit (.int 0))) (.cmp .eq (.sub (.sub (.var 1) (.neg (.lit (.int 1)))) (.lit (.int 0))) (.var 2)))
  (.cons (.asg (.sub (.var 1) (.neg (.lit (.int 1)))) (.tup (.cons (.var 2) (.cons (.bin .add (.sub (.sub (.var 1) (.neg (.lit (.int 1)))) (.lit (.int 1))) (.var 3)) .nil))))
  .nil)
  (.cons (.expr (.bm "append" false (.var 1) (.cons (.tup (.cons (.var 2) (.cons (.var 3) .nil))) .nil)))
  .nil))
  .nil))
  (.cons (.ret (.var 1))
  .nil)))⟩
structure FHas (P : Prog) : Prop extends Com.Has P where
  pinit : P.fn "Pipe.__init__" = some F_Pipe___init__
  place : P.fn "place_of" = some F_place_of
  apart : P.fn "are_apart" = some F_are_apart
  joined : P.fn "joined_rows" = some F_joined_rows
  between : P.fn "rows_between" = some F_rows_between
  inner : P.fn "inner_places" = some F_inner_places
  endp : P.fn "end_place" = some F_end_place
  first : P.fn "first_apart" = some F_first_apart
  cinit : P.fn "Content.__init__" = some F_Content___init__
  str : P.fn "stretches" = some F_stretches
  meet : P.fn "meetings" = some F_meetings
  pig : P.fn "pigs" = some F_pigs
  at_ : P.fn "_law_at" = some F_law_at
  lapart : P.fn "_law_apart" = some F_law_apart
  fill : P.fn "_law_fill" = some F_law_fill
  pipe : P.fn "_law_pipe" = some F_law_pipe
  begun : P.fn "_law_begun" = some F_law_begun
  ljoined : P.fn "_law_joined" = some F_law_joined
  fP : P.fld "Pipe" = ["rooms", "table", "thick", "apart", "pig"]
  fC : P.fld "Content" = ["pipe", "row_kept", "sinces_kept", "pigs_kept"]
  fB : P.fld "BadFill" = []
  fT : P.fld "Touch" = ["pair"]
end E1.Fi

set_option maxHeartbeats 2000000
namespace E1.Fi
open PySem (Str)
open E1 E1.Com
variable {P : Prog}
/-! ### cells -/
theorem rb_cell {S : Store} {k : Nat} {xs : List D} (h : S[k]? = some (.lst xs)) : rb S (.ref k) = .fl xs := by simp only [rb, h]
theorem blt_lenC {S : Store} {k : Nat} {xs : List D} (h : S[k]? = some (.lst xs)) : blt .len [.ref k] S = .ok (.int xs.length) S := by
  show (match rbl S (.ref k) with | .fl xs => R.ok (D.int xs.length) S | .tup xs => .ok (.int xs.length) S | .fd _ _ vs => .ok (.int vs.length) S | _ => .no) = _
  have : rbl S (.ref k) = .fl xs := rb_cell h
  rw [this]
theorem sub_cell {S : Store} {k : Nat} {xs : List D} (h : S[k]? = some (.lst xs)) (i : Int) : subF S (.ref k) (.int i) = at? xs i := by
  have : rbl S (.ref k) = .fl xs := rb_cell h
  unfold subF
  rw [this]
theorem last_get {S : Store} {c : Cell} : (S ++ [c])[S.length]? = some c := by simp
theorem last_set {S : Store} {c d : Cell} : (S ++ [c]).set S.length d = S ++ [d] := by simp
def rowS (p : Str × Int) : D := .tup [.str p.1, .int p.2]
theorem norefs_rowS : ∀ ps : List (Str × Int), norefs (ps.map rowS) = true
  | [] => rfl
  | p :: ps => by simp only [List.map_cons, norefs, norefs_rowS ps]; rfl
def addR (rows : List (Str × Int)) (p : Str × Int) : List (Str × Int) :=
  match rows.getLast? with
  | some q => if q.1 = p.1 then rows.dropLast ++ [(p.1, q.2 + p.2)] else rows ++ [p]
  | none => [p]
def joinR (ps : List (Str × Int)) : List (Str × Int) := ps.foldl addR []
theorem addR_len (rows : List (Str × Int)) (p : Str × Int) : (addR rows p).length ≤ rows.length + 1 := by
  unfold addR
  split
  · split
    · simp <;> omega
    · simp
  · simp
theorem at_neg1 {xs : List D} {x : D} : at? (xs ++ [x]) (-1) = some x := at_last (by simp)
theorem ixN_neg1 {n : Nat} : ixN (n + 1) (-1) = some n := by
  unfold ixN
  rw [if_neg (by omega), if_pos (by omega)]
  congr 1
  omega
theorem set_last {xs : List D} {x y : D} : (xs ++ [x]).set xs.length y = xs ++ [y] := by simp
theorem cop_str {S : Store} {a b : Str} : cop .eq (.str a) (.str b) S = .ok (.bl (decide (a = b))) S := by
  have : cop .eq (.str a) (.str b) S = .ok (.bl (a == b)) S := by rfl
  have e : (a == b) = decide (a = b) := by
    by_cases h : a = b
    · subst h; simp
    · rw [decide_eq_false h]; exact beq_eq_false_iff_ne.mpr h
  rw [this, e]
theorem walk_src {S T : Store} {d : D} {xs : List D} {ck : Option (Nat × List D)} (h : ∀ T, srcOf (S ++ T) d = some (xs, ck)) : stands (S ++ T) ck := by
  have h0 := h T
  cases d with
  | ref a =>
    simp only [srcOf] at h0
    split at h0
    · rename_i ys e; cases h0; exact e
    · cases h0
  | _ => simp only [srcOf] at h0; cases h0 <;> exact trivial
def jB : Sts := loop1 F_joined_rows
theorem jB_turn (n : Nat) (d : D) (S : Store) (acc : List (Str × Int)) (hl : acc.length < 1000) (p : Str × Int) :
    exs (envOf P n) jB [some d, some (.ref S.length), some (.str p.1), some (.int p.2)] (S ++ [.lst (acc.map rowS)]) = .nx [some d, some (.ref S.length), some (.str p.1), some (.int p.2)] (S ++ [.lst ((addR acc p).map rowS)]) := by
  have ga : (S ++ [Cell.lst (acc.map rowS)])[S.length]? = some (.lst (acc.map rowS)) := last_get
  have hlen := blt_lenC ga
  rw [List.length_map] at hlen
  have happ := ev_append (C := envOf P n) (b := false) (a := .var 1) (e := .tup (.cons (.var 2) (.cons (.var 3) .nil))) (σ := [some d, some (.ref S.length), some (.str p.1), some (.int p.2)]) (S := S ++ [.lst (acc.map rowS)]) (i := S.length) (xs := acc.map rowS) (y := rowS p) (by simp only [ev, evs, evo, evc, asg, asgs, exs_cons, exs_nil, ex, bind_ok, bind_exc, st_ok, st_exc, bind_nx, bind_ret, bind_brk, bind_cnt, bind_xc, fin_ret, fin_nx, fin_exc, asE_some, asB_ok, bop_add, bop_sub, bop_mul, bop_fdiv, bop_mod, cop_lt, cop_le, cop_gt, cop_ge, cop_eq, cop_ne, cop_eqb, cop_neb, blt_abs, blt_lenT, blt_lenL, flat, lLINE0, lLINE1, lLINE2, lLINE3, lLINE4, lLINE5, lLINE6, lLINE7, lLINE8, alloc, sub_fl, sub_tp, seqOf_tup, seqOf_fl, ↓ev_int, ↓ev_bl, ↓ev_str, ↓ev_non, List.getElem?_cons_zero, List.getElem?_cons_succ, List.set_cons_zero, List.set_cons_succ, List.length_cons, List.length_nil, List.map_cons, List.map_nil, List.replicate, List.nil_append, List.cons_append, List.append_nil, if_true, if_false, decide_true, decide_false, Bool.not_true, Bool.not_false, Bool.false_eq_true, Nat.reduceLT, Nat.reduceAdd, Nat.reduceSub, Nat.reduceLeDiff, Nat.zero_add, Nat.add_zero, Nat.sub_zero, Nat.lt_add_one, Nat.zero_lt_succ, and_true, and_self, true_and, ite_true, ite_false]) (by simp only [ev, evs, evo, evc, asg, asgs, exs_cons, exs_nil, ex, bind_ok, bind_exc, st_ok, st_exc, bind_nx, bind_ret, bind_brk, bind_cnt, bind_xc, fin_ret, fin_nx, fin_exc, asE_some, asB_ok, bop_add, bop_sub, bop_mul, bop_fdiv, bop_mod, cop_lt, cop_le, cop_gt, cop_ge, cop_eq, cop_ne, cop_eqb, cop_neb, blt_abs, blt_lenT, blt_lenL, flat, lLINE0, lLINE1, lLINE2, lLINE3, lLINE4, lLINE5, lLINE6, lLINE7, lLINE8, alloc, sub_fl, sub_tp, seqOf_tup, seqOf_fl, ↓ev_int, ↓ev_bl, ↓ev_str, ↓ev_non, List.getElem?_cons_zero, List.getElem?_cons_succ, List.set_cons_zero, List.set_cons_succ, List.length_cons, List.length_nil, List.map_cons, List.map_nil, List.replicate, List.nil_append, List.cons_append, List.append_nil, if_true, if_false, decide_true, decide_false, Bool.not_true, Bool.not_false, Bool.false_eq_true, Nat.reduceLT, Nat.reduceAdd, Nat.reduceSub, Nat.reduceLeDiff, Nat.zero_add, Nat.add_zero, Nat.sub_zero, Nat.lt_add_one, Nat.zero_lt_succ, and_true, and_self, true_and, ite_true, ite_false]; rfl) ga (by rw [List.length_map, LINE_num]; omega)
  rw [last_set] at happ
  cases hacc : acc.getLast? with
  | none =>
    have e : acc = [] := by simpa using hacc
    subst e
    refine (exs_nx ?_).trans exs_nil
    rw [ex_ite (p := false) (S1 := S ++ [.lst (([] : List (Str × Int)).map rowS)]) (by
      rw [ev_and (p := false) (S1 := S ++ [.lst (([] : List (Str × Int)).map rowS)]) (by
        have hl0 : blt .len [.ref S.length] (S ++ [.lst []]) = .ok (.int 0) (S ++ [.lst []]) := hlen
        simp only [ev, evs, evo, evc, asg, asgs, exs_cons, exs_nil, ex, bind_ok, bind_exc, st_ok, st_exc, bind_nx, bind_ret, bind_brk, bind_cnt, bind_xc, fin_ret, fin_nx, fin_exc, asE_some, asB_ok, bop_add, bop_sub, bop_mul, bop_fdiv, bop_mod, cop_lt, cop_le, cop_gt, cop_ge, cop_eq, cop_ne, cop_eqb, cop_neb, blt_abs, blt_lenT, blt_lenL, flat, lLINE0, lLINE1, lLINE2, lLINE3, lLINE4, lLINE5, lLINE6, lLINE7, lLINE8, alloc, sub_fl, sub_tp, seqOf_tup, seqOf_fl, ↓ev_int, ↓ev_bl, ↓ev_str, ↓ev_non, List.getElem?_cons_zero, List.getElem?_cons_succ, List.set_cons_zero, List.set_cons_succ, List.length_cons, List.length_nil, List.map_cons, List.map_nil, List.replicate, List.nil_append, List.cons_append, List.append_nil, if_true, if_false, decide_true, decide_false, Bool.not_true, Bool.not_false, Bool.false_eq_true, Nat.reduceLT, Nat.reduceAdd, Nat.reduceSub, Nat.reduceLeDiff, Nat.zero_add, Nat.add_zero, Nat.sub_zero, Nat.lt_add_one, Nat.zero_lt_succ, and_true, and_self, true_and, ite_true, ite_false, hl0]; rfl)]; rfl), if_neg (by simp)]
    rw [exs_cons, ex, happ, st_ok, bind_nx, exs_nil]
    rfl
  | some q =>
    obtain ⟨ini, rfl⟩ : ∃ ini, acc = ini ++ [q] := List.getLast?_eq_some_iff.mp hacc
    have gl : at? ((ini ++ [q]).map rowS) (-1) = some (rowS q) := by rw [List.map_append]; exact at_neg1
    have gs := sub_cell ga (-1)
    rw [gl] at gs
    have z0 : ∀ S, subF S (rowS q) (.int 0) = some (.str q.1) := fun S => by rfl
    have z1 : ∀ S, subF S (rowS q) (.int 1) = some (.int q.2) := fun S => by rfl
    have test : ev (envOf P n) (.and (.cmp .gt (.blt .len (.cons (.var 1) .nil)) (.lit (.int 0))) (.cmp .eq (.sub (.sub (.var 1) (.neg (.lit (.int 1)))) (.lit (.int 0))) (.var 2))) [some d, some (.ref S.length), some (.str p.1), some (.int p.2)] (S ++ [.lst ((ini ++ [q]).map rowS)]) = .ok (.bl (decide (q.1 = p.1))) (S ++ [.lst ((ini ++ [q]).map rowS)]) := by
      rw [ev_and (p := true) (S1 := S ++ [.lst ((ini ++ [q]).map rowS)]) (by
        simp only [ev, evs, evo, evc, asg, asgs, exs_cons, exs_nil, ex, bind_ok, bind_exc, st_ok, st_exc, bind_nx, bind_ret, bind_brk, bind_cnt, bind_xc, fin_ret, fin_nx, fin_exc, asE_some, asB_ok, bop_add, bop_sub, bop_mul, bop_fdiv, bop_mod, cop_lt, cop_le, cop_gt, cop_ge, cop_eq, cop_ne, cop_eqb, cop_neb, blt_abs, blt_lenT, blt_lenL, flat, lLINE0, lLINE1, lLINE2, lLINE3, lLINE4, lLINE5, lLINE6, lLINE7, lLINE8, alloc, sub_fl, sub_tp, seqOf_tup, seqOf_fl, ↓ev_int, ↓ev_bl, ↓ev_str, ↓ev_non, List.getElem?_cons_zero, List.getElem?_cons_succ, List.set_cons_zero, List.set_cons_succ, List.length_cons, List.length_nil, List.map_cons, List.map_nil, List.replicate, List.nil_append, List.cons_append, List.append_nil, if_true, if_false, decide_true, decide_false, Bool.not_true, Bool.not_false, Bool.false_eq_true, Nat.reduceLT, Nat.reduceAdd, Nat.reduceSub, Nat.reduceLeDiff, Nat.zero_add, Nat.add_zero, Nat.sub_zero, Nat.lt_add_one, Nat.zero_lt_succ, and_true, and_self, true_and, ite_true, ite_false, hlen]
        rw [decide_eq_true (by simp only [List.length_append, List.length_cons, List.length_nil]; omega)]), if_pos rfl]
      simp only [ev, evs, evo, evc, asg, asgs, exs_cons, exs_nil, ex, bind_ok, bind_exc, st_ok, st_exc, bind_nx, bind_ret, bind_brk, bind_cnt, bind_xc, fin_ret, fin_nx, fin_exc, asE_some, asB_ok, bop_add, bop_sub, bop_mul, bop_fdiv, bop_mod, cop_lt, cop_le, cop_gt, cop_ge, cop_eq, cop_ne, cop_eqb, cop_neb, blt_abs, blt_lenT, blt_lenL, flat, lLINE0, lLINE1, lLINE2, lLINE3, lLINE4, lLINE5, lLINE6, lLINE7, lLINE8, alloc, sub_fl, sub_tp, seqOf_tup, seqOf_fl, ↓ev_int, ↓ev_bl, ↓ev_str, ↓ev_non, List.getElem?_cons_zero, List.getElem?_cons_succ, List.set_cons_zero, List.set_cons_succ, List.length_cons, List.length_nil, List.map_cons, List.map_nil, List.replicate, List.nil_append, List.cons_append, List.append_nil, if_true, if_false, decide_true, decide_false, Bool.not_true, Bool.not_false, Bool.false_eq_true, Nat.reduceLT, Nat.reduceAdd, Nat.reduceSub, Nat.reduceLeDiff, Nat.zero_add, Nat.add_zero, Nat.sub_zero, Nat.lt_add_one, Nat.zero_lt_succ, and_true, and_self, true_and, ite_true, ite_false, gs, z0]
      exact cop_str
    refine (exs_nx ?_).trans exs_nil
    rw [ex_ite test]
    unfold addR
    rw [hacc]
    dsimp only
    by_cases hq : q.1 = p.1
    · rw [decide_eq_true hq, if_pos rfl, if_pos hq]
      have hset : setSub (S ++ [.lst ((ini ++ [q]).map rowS)]) (.ref S.length) (.int (-1)) (rowS (p.1, q.2 + p.2)) = some (S ++ [.lst ((ini ++ [(p.1, q.2 + p.2)]).map rowS)]) := by
        unfold setSub
        simp only [ga]
        rw [List.length_map, List.length_append]
        show (ixN (ini.length + 1) (-1)).map _ = _
        rw [ixN_neg1, Option.map_some]
        rw [last_set, List.map_append, List.map_append, List.map_cons, List.map_nil]
        have := set_last (xs := ini.map rowS) (x := rowS q) (y := rowS (p.1, q.2 + p.2))
        rw [List.length_map] at this
        rw [this]; rfl
      rw [List.dropLast_concat]
      refine (exs_nx ?_).trans exs_nil
      have ev1 : ev (envOf P n) (.tup (.cons (.var 2) (.cons (.bin .add (.sub (.sub (.var 1) (.neg (.lit (.int 1)))) (.lit (.int 1))) (.var 3)) .nil))) [some d, some (.ref S.length), some (.str p.1), some (.int p.2)] (S ++ [.lst ((ini ++ [q]).map rowS)]) = .ok (rowS (p.1, q.2 + p.2)) (S ++ [.lst ((ini ++ [q]).map rowS)]) := by
        simp only [ev, evs, evo, evc, asg, asgs, exs_cons, exs_nil, ex, bind_ok, bind_exc, st_ok, st_exc, bind_nx, bind_ret, bind_brk, bind_cnt, bind_xc, fin_ret, fin_nx, fin_exc, asE_some, asB_ok, bop_add, bop_sub, bop_mul, bop_fdiv, bop_mod, cop_lt, cop_le, cop_gt, cop_ge, cop_eq, cop_ne, cop_eqb, cop_neb, blt_abs, blt_lenT, blt_lenL, flat, lLINE0, lLINE1, lLINE2, lLINE3, lLINE4, lLINE5, lLINE6, lLINE7, lLINE8, alloc, sub_fl, sub_tp, seqOf_tup, seqOf_fl, ↓ev_int, ↓ev_bl, ↓ev_str, ↓ev_non, List.getElem?_cons_zero, List.getElem?_cons_succ, List.set_cons_zero, List.set_cons_succ, List.length_cons, List.length_nil, List.map_cons, List.map_nil, List.replicate, List.nil_append, List.cons_append, List.append_nil, if_true, if_false, decide_true, decide_false, Bool.not_true, Bool.not_false, Bool.false_eq_true, Nat.reduceLT, Nat.reduceAdd, Nat.reduceSub, Nat.reduceLeDiff, Nat.zero_add, Nat.add_zero, Nat.sub_zero, Nat.lt_add_one, Nat.zero_lt_succ, and_true, and_self, true_and, ite_true, ite_false, gs, z1]; rfl
      rw [ex, ev1, st_ok, asg]
      have e1 : ev (envOf P n) (.var 1) [some d, some (.ref S.length), some (.str p.1), some (.int p.2)] (S ++ [.lst ((ini ++ [q]).map rowS)]) = .ok (.ref S.length) (S ++ [.lst ((ini ++ [q]).map rowS)]) := by simp only [ev, evs, evo, evc, asg, asgs, exs_cons, exs_nil, ex, bind_ok, bind_exc, st_ok, st_exc, bind_nx, bind_ret, bind_brk, bind_cnt, bind_xc, fin_ret, fin_nx, fin_exc, asE_some, asB_ok, bop_add, bop_sub, bop_mul, bop_fdiv, bop_mod, cop_lt, cop_le, cop_gt, cop_ge, cop_eq, cop_ne, cop_eqb, cop_neb, blt_abs, blt_lenT, blt_lenL, flat, lLINE0, lLINE1, lLINE2, lLINE3, lLINE4, lLINE5, lLINE6, lLINE7, lLINE8, alloc, sub_fl, sub_tp, seqOf_tup, seqOf_fl, ↓ev_int, ↓ev_bl, ↓ev_str, ↓ev_non, List.getElem?_cons_zero, List.getElem?_cons_succ, List.set_cons_zero, List.set_cons_succ, List.length_cons, List.length_nil, List.map_cons, List.map_nil, List.replicate, List.nil_append, List.cons_append, List.append_nil, if_true, if_false, decide_true, decide_false, Bool.not_true, Bool.not_false, Bool.false_eq_true, Nat.reduceLT, Nat.reduceAdd, Nat.reduceSub, Nat.reduceLeDiff, Nat.zero_add, Nat.add_zero, Nat.sub_zero, Nat.lt_add_one, Nat.zero_lt_succ, and_true, and_self, true_and, ite_true, ite_false]
      have e2 : ev (envOf P n) (.neg (.lit (.int 1))) [some d, some (.ref S.length), some (.str p.1), some (.int p.2)] (S ++ [.lst ((ini ++ [q]).map rowS)]) = .ok (.int (-1)) (S ++ [.lst ((ini ++ [q]).map rowS)]) := by simp only [ev, evs, evo, evc, asg, asgs, exs_cons, exs_nil, ex, bind_ok, bind_exc, st_ok, st_exc, bind_nx, bind_ret, bind_brk, bind_cnt, bind_xc, fin_ret, fin_nx, fin_exc, asE_some, asB_ok, bop_add, bop_sub, bop_mul, bop_fdiv, bop_mod, cop_lt, cop_le, cop_gt, cop_ge, cop_eq, cop_ne, cop_eqb, cop_neb, blt_abs, blt_lenT, blt_lenL, flat, lLINE0, lLINE1, lLINE2, lLINE3, lLINE4, lLINE5, lLINE6, lLINE7, lLINE8, alloc, sub_fl, sub_tp, seqOf_tup, seqOf_fl, ↓ev_int, ↓ev_bl, ↓ev_str, ↓ev_non, List.getElem?_cons_zero, List.getElem?_cons_succ, List.set_cons_zero, List.set_cons_succ, List.length_cons, List.length_nil, List.map_cons, List.map_nil, List.replicate, List.nil_append, List.cons_append, List.append_nil, if_true, if_false, decide_true, decide_false, Bool.not_true, Bool.not_false, Bool.false_eq_true, Nat.reduceLT, Nat.reduceAdd, Nat.reduceSub, Nat.reduceLeDiff, Nat.zero_add, Nat.add_zero, Nat.sub_zero, Nat.lt_add_one, Nat.zero_lt_succ, and_true, and_self, true_and, ite_true, ite_false]
      rw [e1, bind_ok, e2, bind_ok, hset]
    · rw [decide_eq_false hq, if_neg (by simp), if_neg hq]
      rw [exs_cons, ex, happ, st_ok, bind_nx, exs_nil, List.map_append (l₂ := [p])]
      rfl
theorem joined_loop (n : Nat) (d : D) (S : Store) (ck : Option (Nat × List D)) (hs : ∀ T, stands (S ++ T) ck) : ∀ (ps acc : List (Str × Int)) (x y : Option D), acc.length + ps.length < 1000 →
    ∃ x' y', forL (fun d σ S => asg (envOf P n) (.tup (.cons (.name 2) (.cons (.name 3) .nil))) d σ S) (fun σ S => exs (envOf P n) jB σ S) ck (ps.map rowS) [some d, some (.ref S.length), x, y] (S ++ [.lst (acc.map rowS)]) = .nx [some d, some (.ref S.length), x', y'] (S ++ [.lst ((ps.foldl addR acc).map rowS)])
  | [], acc, x, y, _ => ⟨x, y, forL_nil (hs _)⟩
  | p :: ps, acc, x, y, hl => by
    have h1 := addR_len acc p
    simp only [List.length_cons] at hl
    obtain ⟨x', y', h⟩ := joined_loop n d S ck hs ps (addR acc p) (some (.str p.1)) (some (.int p.2)) (by omega)
    refine ⟨x', y', ?_⟩
    rw [List.map_cons, forL_nx (hs _) (σ1 := [some d, some (.ref S.length), some (.str p.1), some (.int p.2)]) (by unfold rowS; simp only [ev, evs, evo, evc, asg, asgs, exs_cons, exs_nil, ex, bind_ok, bind_exc, st_ok, st_exc, bind_nx, bind_ret, bind_brk, bind_cnt, bind_xc, fin_ret, fin_nx, fin_exc, asE_some, asB_ok, bop_add, bop_sub, bop_mul, bop_fdiv, bop_mod, cop_lt, cop_le, cop_gt, cop_ge, cop_eq, cop_ne, cop_eqb, cop_neb, blt_abs, blt_lenT, blt_lenL, flat, lLINE0, lLINE1, lLINE2, lLINE3, lLINE4, lLINE5, lLINE6, lLINE7, lLINE8, alloc, sub_fl, sub_tp, seqOf_tup, seqOf_fl, ↓ev_int, ↓ev_bl, ↓ev_str, ↓ev_non, List.getElem?_cons_zero, List.getElem?_cons_succ, List.set_cons_zero, List.set_cons_succ, List.length_cons, List.length_nil, List.map_cons, List.map_nil, List.replicate, List.nil_append, List.cons_append, List.append_nil, if_true, if_false, decide_true, decide_false, Bool.not_true, Bool.not_false, Bool.false_eq_true, Nat.reduceLT, Nat.reduceAdd, Nat.reduceSub, Nat.reduceLeDiff, Nat.zero_add, Nat.add_zero, Nat.sub_zero, Nat.lt_add_one, Nat.zero_lt_succ, and_true, and_self, true_and, ite_true, ite_false]) (jB_turn n d S acc (by omega) p)]
    exact h
theorem call_joined_ (f : String) (hf : P.fn f = some F_joined_rows) (n : Nat) (d : D) (S : Store) (ps : List (Str × Int)) (ck : Option (Nat × List D)) (hd : ∀ T, srcOf (S ++ T) d = some (ps.map rowS, ck)) (hl : ps.length < 1000) :
    call P (n + 1) f [d] S = .ok (.ref S.length) (S ++ [.lst ((joinR ps).map rowS)]) := by
  rw [call_fin hf n [d] S rfl (by decide)]
  obtain ⟨x', y', h⟩ := joined_loop (P := P) n d S ck (fun T => walk_src hd) ps [] none none (by simpa using hl)
  show fin (exs (envOf P n) F_joined_rows.body [some d, none, none, none] S) = _
  refine (congrArg fin (exs_nx (σ' := [some d, some (.ref S.length), none, none]) (S' := S ++ [.lst []]) (by simp only [ev, evs, evo, evc, asg, asgs, exs_cons, exs_nil, ex, bind_ok, bind_exc, st_ok, st_exc, bind_nx, bind_ret, bind_brk, bind_cnt, bind_xc, fin_ret, fin_nx, fin_exc, asE_some, asB_ok, bop_add, bop_sub, bop_mul, bop_fdiv, bop_mod, cop_lt, cop_le, cop_gt, cop_ge, cop_eq, cop_ne, cop_eqb, cop_neb, blt_abs, blt_lenT, blt_lenL, flat, lLINE0, lLINE1, lLINE2, lLINE3, lLINE4, lLINE5, lLINE6, lLINE7, lLINE8, alloc, sub_fl, sub_tp, seqOf_tup, seqOf_fl, ↓ev_int, ↓ev_bl, ↓ev_str, ↓ev_non, List.getElem?_cons_zero, List.getElem?_cons_succ, List.set_cons_zero, List.set_cons_succ, List.length_cons, List.length_nil, List.map_cons, List.map_nil, List.replicate, List.nil_append, List.cons_append, List.append_nil, if_true, if_false, decide_true, decide_false, Bool.not_true, Bool.not_false, Bool.false_eq_true, Nat.reduceLT, Nat.reduceAdd, Nat.reduceSub, Nat.reduceLeDiff, Nat.zero_add, Nat.add_zero, Nat.sub_zero, Nat.lt_add_one, Nat.zero_lt_succ, and_true, and_self, true_and, ite_true, ite_false]))).trans ?_
  have hi : evi (envOf P n) (.ex (.var 0)) [some d, some (.ref S.length), none, none] (S ++ [.lst []]) = .ok (ps.map rowS, ck) (S ++ [.lst []]) := by
    rw [evi]
    simp only [ev, evs, evo, evc, asg, asgs, exs_cons, exs_nil, ex, bind_ok, bind_exc, st_ok, st_exc, bind_nx, bind_ret, bind_brk, bind_cnt, bind_xc, fin_ret, fin_nx, fin_exc, asE_some, asB_ok, bop_add, bop_sub, bop_mul, bop_fdiv, bop_mod, cop_lt, cop_le, cop_gt, cop_ge, cop_eq, cop_ne, cop_eqb, cop_neb, blt_abs, blt_lenT, blt_lenL, flat, lLINE0, lLINE1, lLINE2, lLINE3, lLINE4, lLINE5, lLINE6, lLINE7, lLINE8, alloc, sub_fl, sub_tp, seqOf_tup, seqOf_fl, ↓ev_int, ↓ev_bl, ↓ev_str, ↓ev_non, List.getElem?_cons_zero, List.getElem?_cons_succ, List.set_cons_zero, List.set_cons_succ, List.length_cons, List.length_nil, List.map_cons, List.map_nil, List.replicate, List.nil_append, List.cons_append, List.append_nil, if_true, if_false, decide_true, decide_false, Bool.not_true, Bool.not_false, Bool.false_eq_true, Nat.reduceLT, Nat.reduceAdd, Nat.reduceSub, Nat.reduceLeDiff, Nat.zero_add, Nat.add_zero, Nat.sub_zero, Nat.lt_add_one, Nat.zero_lt_succ, and_true, and_self, true_and, ite_true, ite_false, hd]
  refine (congrArg fin (exs_nx (σ' := [some d, some (.ref S.length), x', y']) (S' := S ++ [.lst ((joinR ps).map rowS)]) (by rw [ex, hi, st_ok]; exact h))).trans ?_
  simp only [ev, evs, evo, evc, asg, asgs, exs_cons, exs_nil, ex, bind_ok, bind_exc, st_ok, st_exc, bind_nx, bind_ret, bind_brk, bind_cnt, bind_xc, fin_ret, fin_nx, fin_exc, asE_some, asB_ok, bop_add, bop_sub, bop_mul, bop_fdiv, bop_mod, cop_lt, cop_le, cop_gt, cop_ge, cop_eq, cop_ne, cop_eqb, cop_neb, blt_abs, blt_lenT, blt_lenL, flat, lLINE0, lLINE1, lLINE2, lLINE3, lLINE4, lLINE5, lLINE6, lLINE7, lLINE8, alloc, sub_fl, sub_tp, seqOf_tup, seqOf_fl, ↓ev_int, ↓ev_bl, ↓ev_str, ↓ev_non, List.getElem?_cons_zero, List.getElem?_cons_succ, List.set_cons_zero, List.set_cons_succ, List.length_cons, List.length_nil, List.map_cons, List.map_nil, List.replicate, List.nil_append, List.cons_append, List.append_nil, if_true, if_false, decide_true, decide_false, Bool.not_true, Bool.not_false, Bool.false_eq_true, Nat.reduceLT, Nat.reduceAdd, Nat.reduceSub, Nat.reduceLeDiff, Nat.zero_add, Nat.add_zero, Nat.sub_zero, Nat.lt_add_one, Nat.zero_lt_succ, and_true, and_self, true_and, ite_true, ite_false]
end E1.Fi

set_option maxHeartbeats 2000000
namespace E1.Fi
open PySem (Str)
open E1 E1.Com
variable {P : Prog}
/-! ### inner places -/
def innerA (place : Int) : List (Str × Int) → List Int
  | [] => []
  | p :: r => (if 0 < place then [place] else []) ++ innerA (place + p.2) r
def innerP (ps : List (Str × Int)) : List Int := innerA 0 ps
theorem innerA_len : ∀ (ps : List (Str × Int)) (pl : Int), (innerA pl ps).length ≤ ps.length
  | [], _ => Nat.le_refl _
  | p :: r, pl => by
    have := innerA_len r (pl + p.2)
    simp only [innerA, List.length_append, List.length_cons]
    split <;> simp <;> omega
def iB : Sts := loop1 F_inner_places
theorem inner_loop (n : Nat) (d : D) (S : Store) (ck : Option (Nat × List D)) (hs : ∀ T, stands (S ++ T) ck) : ∀ (ps : List (Str × Int)) (acc : List Int) (pl : Int) (x y : Option D), acc.length + ps.length < 1000 →
    ∃ z x' y', forL (fun d σ S => asg (envOf P n) (.tup (.cons (.name 3) (.cons (.name 4) .nil))) d σ S) (fun σ S => exs (envOf P n) iB σ S) ck (ps.map rowS) [some d, some (.ref S.length), some (.int pl), x, y] (S ++ [.lst (acc.map .int)]) = .nx [some d, some (.ref S.length), z, x', y'] (S ++ [.lst ((acc ++ innerA pl ps).map .int)])
  | [], acc, pl, x, y, _ => ⟨some (.int pl), x, y, by rw [List.map_nil, forL_nil (hs _), innerA, List.append_nil]⟩
  | p :: ps, acc, pl, x, y, hl => by
    simp only [List.length_cons] at hl
    have hl2 : (acc ++ (if 0 < pl then [pl] else [])).length + ps.length < 1000 := by
      rw [List.length_append]; split <;> simp <;> omega
    obtain ⟨z, x', y', h⟩ := inner_loop n d S ck hs ps (acc ++ (if 0 < pl then [pl] else [])) (pl + p.2) (some (.str p.1)) (some (.int p.2)) hl2
    refine ⟨z, x', y', ?_⟩
    have ga : (S ++ [Cell.lst (acc.map D.int)])[S.length]? = some (.lst (acc.map D.int)) := last_get
    have body : exs (envOf P n) iB [some d, some (.ref S.length), some (.int pl), some (.str p.1), some (.int p.2)] (S ++ [.lst (acc.map .int)]) = .nx [some d, some (.ref S.length), some (.int (pl + p.2)), some (.str p.1), some (.int p.2)] (S ++ [.lst ((acc ++ (if 0 < pl then [pl] else [])).map .int)]) := by
      by_cases h0 : 0 < pl
      · rw [if_pos h0]
        have happ := ev_append (C := envOf P n) (b := false) (a := .var 1) (e := .var 2) (σ := [some d, some (.ref S.length), some (.int pl), some (.str p.1), some (.int p.2)]) (S := S ++ [.lst (acc.map .int)]) (i := S.length) (xs := acc.map .int) (y := .int pl) (by simp only [ev, evs, evo, evc, asg, asgs, exs_cons, exs_nil, ex, bind_ok, bind_exc, st_ok, st_exc, bind_nx, bind_ret, bind_brk, bind_cnt, bind_xc, fin_ret, fin_nx, fin_exc, asE_some, asB_ok, bop_add, bop_sub, bop_mul, bop_fdiv, bop_mod, cop_lt, cop_le, cop_gt, cop_ge, cop_eq, cop_ne, cop_eqb, cop_neb, blt_abs, blt_lenT, blt_lenL, flat, lLINE0, lLINE1, lLINE2, lLINE3, lLINE4, lLINE5, lLINE6, lLINE7, lLINE8, alloc, sub_fl, sub_tp, seqOf_tup, seqOf_fl, ↓ev_int, ↓ev_bl, ↓ev_str, ↓ev_non, List.getElem?_cons_zero, List.getElem?_cons_succ, List.set_cons_zero, List.set_cons_succ, List.length_cons, List.length_nil, List.map_cons, List.map_nil, List.replicate, List.nil_append, List.cons_append, List.append_nil, if_true, if_false, decide_true, decide_false, Bool.not_true, Bool.not_false, Bool.false_eq_true, Nat.reduceLT, Nat.reduceAdd, Nat.reduceSub, Nat.reduceLeDiff, Nat.zero_add, Nat.add_zero, Nat.sub_zero, Nat.lt_add_one, Nat.zero_lt_succ, and_true, and_self, true_and, ite_true, ite_false]) (by simp only [ev, evs, evo, evc, asg, asgs, exs_cons, exs_nil, ex, bind_ok, bind_exc, st_ok, st_exc, bind_nx, bind_ret, bind_brk, bind_cnt, bind_xc, fin_ret, fin_nx, fin_exc, asE_some, asB_ok, bop_add, bop_sub, bop_mul, bop_fdiv, bop_mod, cop_lt, cop_le, cop_gt, cop_ge, cop_eq, cop_ne, cop_eqb, cop_neb, blt_abs, blt_lenT, blt_lenL, flat, lLINE0, lLINE1, lLINE2, lLINE3, lLINE4, lLINE5, lLINE6, lLINE7, lLINE8, alloc, sub_fl, sub_tp, seqOf_tup, seqOf_fl, ↓ev_int, ↓ev_bl, ↓ev_str, ↓ev_non, List.getElem?_cons_zero, List.getElem?_cons_succ, List.set_cons_zero, List.set_cons_succ, List.length_cons, List.length_nil, List.map_cons, List.map_nil, List.replicate, List.nil_append, List.cons_append, List.append_nil, if_true, if_false, decide_true, decide_false, Bool.not_true, Bool.not_false, Bool.false_eq_true, Nat.reduceLT, Nat.reduceAdd, Nat.reduceSub, Nat.reduceLeDiff, Nat.zero_add, Nat.add_zero, Nat.sub_zero, Nat.lt_add_one, Nat.zero_lt_succ, and_true, and_self, true_and, ite_true, ite_false]) ga (by rw [List.length_map, LINE_num]; omega)
        rw [last_set] at happ
        refine (exs_nx (σ' := [some d, some (.ref S.length), some (.int pl), some (.str p.1), some (.int p.2)]) (S' := S ++ [.lst (acc.map .int ++ [.int pl])]) ?_).trans ?_
        · rw [ex_ite (p := true) (S1 := S ++ [.lst (acc.map .int)]) (by simp only [ev, evs, evo, evc, asg, asgs, exs_cons, exs_nil, ex, bind_ok, bind_exc, st_ok, st_exc, bind_nx, bind_ret, bind_brk, bind_cnt, bind_xc, fin_ret, fin_nx, fin_exc, asE_some, asB_ok, bop_add, bop_sub, bop_mul, bop_fdiv, bop_mod, cop_lt, cop_le, cop_gt, cop_ge, cop_eq, cop_ne, cop_eqb, cop_neb, blt_abs, blt_lenT, blt_lenL, flat, lLINE0, lLINE1, lLINE2, lLINE3, lLINE4, lLINE5, lLINE6, lLINE7, lLINE8, alloc, sub_fl, sub_tp, seqOf_tup, seqOf_fl, ↓ev_int, ↓ev_bl, ↓ev_str, ↓ev_non, List.getElem?_cons_zero, List.getElem?_cons_succ, List.set_cons_zero, List.set_cons_succ, List.length_cons, List.length_nil, List.map_cons, List.map_nil, List.replicate, List.nil_append, List.cons_append, List.append_nil, if_true, if_false, decide_true, decide_false, Bool.not_true, Bool.not_false, Bool.false_eq_true, Nat.reduceLT, Nat.reduceAdd, Nat.reduceSub, Nat.reduceLeDiff, Nat.zero_add, Nat.add_zero, Nat.sub_zero, Nat.lt_add_one, Nat.zero_lt_succ, and_true, and_self, true_and, ite_true, ite_false, h0]), if_pos rfl, exs_cons, ex, happ, st_ok, bind_nx, exs_nil]
        · simp only [ev, evs, evo, evc, asg, asgs, exs_cons, exs_nil, ex, bind_ok, bind_exc, st_ok, st_exc, bind_nx, bind_ret, bind_brk, bind_cnt, bind_xc, fin_ret, fin_nx, fin_exc, asE_some, asB_ok, bop_add, bop_sub, bop_mul, bop_fdiv, bop_mod, cop_lt, cop_le, cop_gt, cop_ge, cop_eq, cop_ne, cop_eqb, cop_neb, blt_abs, blt_lenT, blt_lenL, flat, lLINE0, lLINE1, lLINE2, lLINE3, lLINE4, lLINE5, lLINE6, lLINE7, lLINE8, alloc, sub_fl, sub_tp, seqOf_tup, seqOf_fl, ↓ev_int, ↓ev_bl, ↓ev_str, ↓ev_non, List.getElem?_cons_zero, List.getElem?_cons_succ, List.set_cons_zero, List.set_cons_succ, List.length_cons, List.length_nil, List.map_cons, List.map_nil, List.replicate, List.nil_append, List.cons_append, List.append_nil, if_true, if_false, decide_true, decide_false, Bool.not_true, Bool.not_false, Bool.false_eq_true, Nat.reduceLT, Nat.reduceAdd, Nat.reduceSub, Nat.reduceLeDiff, Nat.zero_add, Nat.add_zero, Nat.sub_zero, Nat.lt_add_one, Nat.zero_lt_succ, and_true, and_self, true_and, ite_true, ite_false, augF]
          rw [List.map_append]; rfl
      · rw [if_neg h0, List.append_nil]
        refine (exs_nx (σ' := [some d, some (.ref S.length), some (.int pl), some (.str p.1), some (.int p.2)]) (S' := S ++ [.lst (acc.map .int)]) ?_).trans ?_
        · rw [ex_ite (p := false) (S1 := S ++ [.lst (acc.map .int)]) (by simp only [ev, evs, evo, evc, asg, asgs, exs_cons, exs_nil, ex, bind_ok, bind_exc, st_ok, st_exc, bind_nx, bind_ret, bind_brk, bind_cnt, bind_xc, fin_ret, fin_nx, fin_exc, asE_some, asB_ok, bop_add, bop_sub, bop_mul, bop_fdiv, bop_mod, cop_lt, cop_le, cop_gt, cop_ge, cop_eq, cop_ne, cop_eqb, cop_neb, blt_abs, blt_lenT, blt_lenL, flat, lLINE0, lLINE1, lLINE2, lLINE3, lLINE4, lLINE5, lLINE6, lLINE7, lLINE8, alloc, sub_fl, sub_tp, seqOf_tup, seqOf_fl, ↓ev_int, ↓ev_bl, ↓ev_str, ↓ev_non, List.getElem?_cons_zero, List.getElem?_cons_succ, List.set_cons_zero, List.set_cons_succ, List.length_cons, List.length_nil, List.map_cons, List.map_nil, List.replicate, List.nil_append, List.cons_append, List.append_nil, if_true, if_false, decide_true, decide_false, Bool.not_true, Bool.not_false, Bool.false_eq_true, Nat.reduceLT, Nat.reduceAdd, Nat.reduceSub, Nat.reduceLeDiff, Nat.zero_add, Nat.add_zero, Nat.sub_zero, Nat.lt_add_one, Nat.zero_lt_succ, and_true, and_self, true_and, ite_true, ite_false, h0]), if_neg (by simp), exs_nil]
        · simp only [ev, evs, evo, evc, asg, asgs, exs_cons, exs_nil, ex, bind_ok, bind_exc, st_ok, st_exc, bind_nx, bind_ret, bind_brk, bind_cnt, bind_xc, fin_ret, fin_nx, fin_exc, asE_some, asB_ok, bop_add, bop_sub, bop_mul, bop_fdiv, bop_mod, cop_lt, cop_le, cop_gt, cop_ge, cop_eq, cop_ne, cop_eqb, cop_neb, blt_abs, blt_lenT, blt_lenL, flat, lLINE0, lLINE1, lLINE2, lLINE3, lLINE4, lLINE5, lLINE6, lLINE7, lLINE8, alloc, sub_fl, sub_tp, seqOf_tup, seqOf_fl, ↓ev_int, ↓ev_bl, ↓ev_str, ↓ev_non, List.getElem?_cons_zero, List.getElem?_cons_succ, List.set_cons_zero, List.set_cons_succ, List.length_cons, List.length_nil, List.map_cons, List.map_nil, List.replicate, List.nil_append, List.cons_append, List.append_nil, if_true, if_false, decide_true, decide_false, Bool.not_true, Bool.not_false, Bool.false_eq_true, Nat.reduceLT, Nat.reduceAdd, Nat.reduceSub, Nat.reduceLeDiff, Nat.zero_add, Nat.add_zero, Nat.sub_zero, Nat.lt_add_one, Nat.zero_lt_succ, and_true, and_self, true_and, ite_true, ite_false, augF]
    rw [List.map_cons, forL_nx (hs _) (σ1 := [some d, some (.ref S.length), some (.int pl), some (.str p.1), some (.int p.2)]) (by unfold rowS; simp only [ev, evs, evo, evc, asg, asgs, exs_cons, exs_nil, ex, bind_ok, bind_exc, st_ok, st_exc, bind_nx, bind_ret, bind_brk, bind_cnt, bind_xc, fin_ret, fin_nx, fin_exc, asE_some, asB_ok, bop_add, bop_sub, bop_mul, bop_fdiv, bop_mod, cop_lt, cop_le, cop_gt, cop_ge, cop_eq, cop_ne, cop_eqb, cop_neb, blt_abs, blt_lenT, blt_lenL, flat, lLINE0, lLINE1, lLINE2, lLINE3, lLINE4, lLINE5, lLINE6, lLINE7, lLINE8, alloc, sub_fl, sub_tp, seqOf_tup, seqOf_fl, ↓ev_int, ↓ev_bl, ↓ev_str, ↓ev_non, List.getElem?_cons_zero, List.getElem?_cons_succ, List.set_cons_zero, List.set_cons_succ, List.length_cons, List.length_nil, List.map_cons, List.map_nil, List.replicate, List.nil_append, List.cons_append, List.append_nil, if_true, if_false, decide_true, decide_false, Bool.not_true, Bool.not_false, Bool.false_eq_true, Nat.reduceLT, Nat.reduceAdd, Nat.reduceSub, Nat.reduceLeDiff, Nat.zero_add, Nat.add_zero, Nat.sub_zero, Nat.lt_add_one, Nat.zero_lt_succ, and_true, and_self, true_and, ite_true, ite_false]) body, h, innerA, List.append_assoc]
theorem call_inner (hf : P.fn "inner_places" = some F_inner_places) (n : Nat) (d : D) (S : Store) (ps : List (Str × Int)) (ck : Option (Nat × List D)) (hd : ∀ T, srcOf (S ++ T) d = some (ps.map rowS, ck)) (hl : ps.length < 1000) :
    call P (n + 1) "inner_places" [d] S = .ok (.ref S.length) (S ++ [.lst ((innerP ps).map .int)]) := by
  rw [call_fin hf n [d] S rfl (by decide)]
  obtain ⟨z, x', y', h⟩ := inner_loop (P := P) n d S ck (fun T => walk_src hd) ps [] 0 none none (by simpa using hl)
  show fin (exs (envOf P n) F_inner_places.body [some d, none, none, none, none] S) = _
  refine (congrArg fin (exs_nx (σ' := [some d, some (.ref S.length), none, none, none]) (S' := S ++ [.lst []]) (by simp only [ev, evs, evo, evc, asg, asgs, exs_cons, exs_nil, ex, bind_ok, bind_exc, st_ok, st_exc, bind_nx, bind_ret, bind_brk, bind_cnt, bind_xc, fin_ret, fin_nx, fin_exc, asE_some, asB_ok, bop_add, bop_sub, bop_mul, bop_fdiv, bop_mod, cop_lt, cop_le, cop_gt, cop_ge, cop_eq, cop_ne, cop_eqb, cop_neb, blt_abs, blt_lenT, blt_lenL, flat, lLINE0, lLINE1, lLINE2, lLINE3, lLINE4, lLINE5, lLINE6, lLINE7, lLINE8, alloc, sub_fl, sub_tp, seqOf_tup, seqOf_fl, ↓ev_int, ↓ev_bl, ↓ev_str, ↓ev_non, List.getElem?_cons_zero, List.getElem?_cons_succ, List.set_cons_zero, List.set_cons_succ, List.length_cons, List.length_nil, List.map_cons, List.map_nil, List.replicate, List.nil_append, List.cons_append, List.append_nil, if_true, if_false, decide_true, decide_false, Bool.not_true, Bool.not_false, Bool.false_eq_true, Nat.reduceLT, Nat.reduceAdd, Nat.reduceSub, Nat.reduceLeDiff, Nat.zero_add, Nat.add_zero, Nat.sub_zero, Nat.lt_add_one, Nat.zero_lt_succ, and_true, and_self, true_and, ite_true, ite_false]))).trans ?_
  refine (congrArg fin (exs_nx (σ' := [some d, some (.ref S.length), some (.int 0), none, none]) (S' := S ++ [.lst []]) (by simp only [ev, evs, evo, evc, asg, asgs, exs_cons, exs_nil, ex, bind_ok, bind_exc, st_ok, st_exc, bind_nx, bind_ret, bind_brk, bind_cnt, bind_xc, fin_ret, fin_nx, fin_exc, asE_some, asB_ok, bop_add, bop_sub, bop_mul, bop_fdiv, bop_mod, cop_lt, cop_le, cop_gt, cop_ge, cop_eq, cop_ne, cop_eqb, cop_neb, blt_abs, blt_lenT, blt_lenL, flat, lLINE0, lLINE1, lLINE2, lLINE3, lLINE4, lLINE5, lLINE6, lLINE7, lLINE8, alloc, sub_fl, sub_tp, seqOf_tup, seqOf_fl, ↓ev_int, ↓ev_bl, ↓ev_str, ↓ev_non, List.getElem?_cons_zero, List.getElem?_cons_succ, List.set_cons_zero, List.set_cons_succ, List.length_cons, List.length_nil, List.map_cons, List.map_nil, List.replicate, List.nil_append, List.cons_append, List.append_nil, if_true, if_false, decide_true, decide_false, Bool.not_true, Bool.not_false, Bool.false_eq_true, Nat.reduceLT, Nat.reduceAdd, Nat.reduceSub, Nat.reduceLeDiff, Nat.zero_add, Nat.add_zero, Nat.sub_zero, Nat.lt_add_one, Nat.zero_lt_succ, and_true, and_self, true_and, ite_true, ite_false]))).trans ?_
  have hi : evi (envOf P n) (.ex (.var 0)) [some d, some (.ref S.length), some (.int 0), none, none] (S ++ [.lst []]) = .ok (ps.map rowS, ck) (S ++ [.lst []]) := by
    rw [evi]
    simp only [ev, evs, evo, evc, asg, asgs, exs_cons, exs_nil, ex, bind_ok, bind_exc, st_ok, st_exc, bind_nx, bind_ret, bind_brk, bind_cnt, bind_xc, fin_ret, fin_nx, fin_exc, asE_some, asB_ok, bop_add, bop_sub, bop_mul, bop_fdiv, bop_mod, cop_lt, cop_le, cop_gt, cop_ge, cop_eq, cop_ne, cop_eqb, cop_neb, blt_abs, blt_lenT, blt_lenL, flat, lLINE0, lLINE1, lLINE2, lLINE3, lLINE4, lLINE5, lLINE6, lLINE7, lLINE8, alloc, sub_fl, sub_tp, seqOf_tup, seqOf_fl, ↓ev_int, ↓ev_bl, ↓ev_str, ↓ev_non, List.getElem?_cons_zero, List.getElem?_cons_succ, List.set_cons_zero, List.set_cons_succ, List.length_cons, List.length_nil, List.map_cons, List.map_nil, List.replicate, List.nil_append, List.cons_append, List.append_nil, if_true, if_false, decide_true, decide_false, Bool.not_true, Bool.not_false, Bool.false_eq_true, Nat.reduceLT, Nat.reduceAdd, Nat.reduceSub, Nat.reduceLeDiff, Nat.zero_add, Nat.add_zero, Nat.sub_zero, Nat.lt_add_one, Nat.zero_lt_succ, and_true, and_self, true_and, ite_true, ite_false, hd]
  refine (congrArg fin (exs_nx (σ' := [some d, some (.ref S.length), z, x', y']) (S' := S ++ [.lst ((innerP ps).map .int)]) (by rw [ex, hi, st_ok]; exact h))).trans ?_
  simp only [ev, evs, evo, evc, asg, asgs, exs_cons, exs_nil, ex, bind_ok, bind_exc, st_ok, st_exc, bind_nx, bind_ret, bind_brk, bind_cnt, bind_xc, fin_ret, fin_nx, fin_exc, asE_some, asB_ok, bop_add, bop_sub, bop_mul, bop_fdiv, bop_mod, cop_lt, cop_le, cop_gt, cop_ge, cop_eq, cop_ne, cop_eqb, cop_neb, blt_abs, blt_lenT, blt_lenL, flat, lLINE0, lLINE1, lLINE2, lLINE3, lLINE4, lLINE5, lLINE6, lLINE7, lLINE8, alloc, sub_fl, sub_tp, seqOf_tup, seqOf_fl, ↓ev_int, ↓ev_bl, ↓ev_str, ↓ev_non, List.getElem?_cons_zero, List.getElem?_cons_succ, List.set_cons_zero, List.set_cons_succ, List.length_cons, List.length_nil, List.map_cons, List.map_nil, List.replicate, List.nil_append, List.cons_append, List.append_nil, if_true, if_false, decide_true, decide_false, Bool.not_true, Bool.not_false, Bool.false_eq_true, Nat.reduceLT, Nat.reduceAdd, Nat.reduceSub, Nat.reduceLeDiff, Nat.zero_add, Nat.add_zero, Nat.sub_zero, Nat.lt_add_one, Nat.zero_lt_succ, and_true, and_self, true_and, ite_true, ite_false]
theorem frz_boxed {C : E1.Env} {f : String} {vs xs : List D} {S : Store} (h : C.call f vs [] = .ok (.ref 0) [.lst xs]) (hv : norefs vs = true) (hx : norefs xs = true) : frzCall C f vs S = .ok (.fl xs) S := by
  unfold frzCall
  rw [frzs_self hv]
  dsimp only
  rw [h]
  dsimp only
  rw [frz_cell (k := 5) (i := 0) (xs := xs) rfl hx]
  simp only [hv, Bool.true_or, if_true]
theorem src_fl (xs : List D) (S : Store) : ∀ T, srcOf (S ++ T) (.fl xs) = some (xs, none) := fun _ => rfl
theorem src_ref {S : Store} {k : Nat} {xs : List D} (h : S[k]? = some (.lst xs)) : ∀ T, srcOf (S ++ T) (.ref k) = some (xs, some (k, xs)) := fun T => by
  have hk : k < S.length := (List.getElem?_eq_some_iff.mp h).1
  have : (S ++ T)[k]? = some (.lst xs) := by rw [List.getElem?_append_left hk]; exact h
  simp only [srcOf, this]
theorem frz_inner (hf : P.fn "inner_places" = some F_inner_places) (n : Nat) (ps : List (Str × Int)) (hl : ps.length < 1000) (S : Store) : frzCall (envOf P (n + 1)) "inner_places" [.fl (ps.map rowS)] S = .ok (.fl ((innerP ps).map .int)) S :=
  frz_boxed (call_inner hf n _ [] ps none (src_fl _ _) hl) (by simp only [norefs, noref, norefs_rowS]; rfl) (norefs_ints _)
theorem frz_joined (f : String) (hf : P.fn f = some F_joined_rows) (n : Nat) (ps : List (Str × Int)) (hl : ps.length < 1000) (S : Store) : frzCall (envOf P (n + 1)) f [.fl (ps.map rowS)] S = .ok (.fl ((joinR ps).map rowS)) S :=
  frz_boxed (call_joined_ f hf n _ [] ps none (src_fl _ _) hl) (by simp only [norefs, noref, norefs_rowS]; rfl) (norefs_rowS _)
/-! ### rows between -/
def mx (a b : Int) : Int := if b > a then b else a
def mn (a b : Int) : Int := if b < a then b else a
def betw (lo hi : Int) (place : Int) : List (Str × Int) → List (Str × Int)
  | [] => []
  | p :: r => (if mx lo place < mn hi (place + p.2) then [(p.1, mn hi (place + p.2) - mx lo place)] else []) ++ betw lo hi (place + p.2) r
theorem blt_max2 {a b : Int} {S : Store} : blt .max2 [.int a, .int b] S = .ok (.int (mx a b)) S := rfl
theorem blt_min2 {a b : Int} {S : Store} : blt .min2 [.int a, .int b] S = .ok (.int (mn a b)) S := rfl
def bB : Sts := loop1 F_rows_between
theorem betw_loop (n : Nat) (d : D) (lo hi : Int) (S : Store) (ck : Option (Nat × List D)) (hs : ∀ T, stands (S ++ T) ck) : ∀ (ps acc : List (Str × Int)) (pl : Int) (x y b : Option D), acc.length + ps.length < 1000 →
    ∃ z x' y' b', forL (fun d σ S => asg (envOf P n) (.tup (.cons (.name 5) (.cons (.name 6) .nil))) d σ S) (fun σ S => exs (envOf P n) bB σ S) ck (ps.map rowS) [some d, some (.int lo), some (.int hi), some (.ref S.length), some (.int pl), x, y, b] (S ++ [.lst (acc.map rowS)]) =
      .nx [some d, some (.int lo), some (.int hi), some (.ref S.length), z, x', y', b'] (S ++ [.lst ((acc ++ betw lo hi pl ps).map rowS)])
  | [], acc, pl, x, y, b, _ => ⟨some (.int pl), x, y, b, by rw [List.map_nil, forL_nil (hs _), betw, List.append_nil]⟩
  | p :: ps, acc, pl, x, y, b, hl => by
    simp only [List.length_cons] at hl
    have hl2 : (acc ++ (if mx lo pl < mn hi (pl + p.2) then [(p.1, mn hi (pl + p.2) - mx lo pl)] else [])).length + ps.length < 1000 := by
      rw [List.length_append]; split <;> simp <;> omega
    obtain ⟨z, x', y', b', h⟩ := betw_loop n d lo hi S ck hs ps (acc ++ (if mx lo pl < mn hi (pl + p.2) then [(p.1, mn hi (pl + p.2) - mx lo pl)] else [])) (pl + p.2) (some (.str p.1)) (some (.int p.2)) (some (.int (mx lo pl))) hl2
    refine ⟨z, x', y', b', ?_⟩
    have ga : (S ++ [Cell.lst (acc.map rowS)])[S.length]? = some (.lst (acc.map rowS)) := last_get
    have body : exs (envOf P n) bB [some d, some (.int lo), some (.int hi), some (.ref S.length), some (.int pl), some (.str p.1), some (.int p.2), b] (S ++ [.lst (acc.map rowS)]) =
        .nx [some d, some (.int lo), some (.int hi), some (.ref S.length), some (.int (pl + p.2)), some (.str p.1), some (.int p.2), some (.int (mx lo pl))] (S ++ [.lst ((acc ++ (if mx lo pl < mn hi (pl + p.2) then [(p.1, mn hi (pl + p.2) - mx lo pl)] else [])).map rowS)]) := by
      refine (exs_nx (σ' := [some d, some (.int lo), some (.int hi), some (.ref S.length), some (.int pl), some (.str p.1), some (.int p.2), some (.int (mx lo pl))]) (S' := S ++ [.lst (acc.map rowS)]) (by simp only [ev, evs, evo, evc, asg, asgs, exs_cons, exs_nil, ex, bind_ok, bind_exc, st_ok, st_exc, bind_nx, bind_ret, bind_brk, bind_cnt, bind_xc, fin_ret, fin_nx, fin_exc, asE_some, asB_ok, bop_add, bop_sub, bop_mul, bop_fdiv, bop_mod, cop_lt, cop_le, cop_gt, cop_ge, cop_eq, cop_ne, cop_eqb, cop_neb, blt_abs, blt_lenT, blt_lenL, flat, lLINE0, lLINE1, lLINE2, lLINE3, lLINE4, lLINE5, lLINE6, lLINE7, lLINE8, alloc, sub_fl, sub_tp, seqOf_tup, seqOf_fl, ↓ev_int, ↓ev_bl, ↓ev_str, ↓ev_non, List.getElem?_cons_zero, List.getElem?_cons_succ, List.set_cons_zero, List.set_cons_succ, List.length_cons, List.length_nil, List.map_cons, List.map_nil, List.replicate, List.nil_append, List.cons_append, List.append_nil, if_true, if_false, decide_true, decide_false, Bool.not_true, Bool.not_false, Bool.false_eq_true, Nat.reduceLT, Nat.reduceAdd, Nat.reduceSub, Nat.reduceLeDiff, Nat.zero_add, Nat.add_zero, Nat.sub_zero, Nat.lt_add_one, Nat.zero_lt_succ, and_true, and_self, true_and, ite_true, ite_false, blt_max2])).trans ?_
      refine (exs_nx (σ' := [some d, some (.int lo), some (.int hi), some (.ref S.length), some (.int (pl + p.2)), some (.str p.1), some (.int p.2), some (.int (mx lo pl))]) (S' := S ++ [.lst (acc.map rowS)]) (by simp only [ev, evs, evo, evc, asg, asgs, exs_cons, exs_nil, ex, bind_ok, bind_exc, st_ok, st_exc, bind_nx, bind_ret, bind_brk, bind_cnt, bind_xc, fin_ret, fin_nx, fin_exc, asE_some, asB_ok, bop_add, bop_sub, bop_mul, bop_fdiv, bop_mod, cop_lt, cop_le, cop_gt, cop_ge, cop_eq, cop_ne, cop_eqb, cop_neb, blt_abs, blt_lenT, blt_lenL, flat, lLINE0, lLINE1, lLINE2, lLINE3, lLINE4, lLINE5, lLINE6, lLINE7, lLINE8, alloc, sub_fl, sub_tp, seqOf_tup, seqOf_fl, ↓ev_int, ↓ev_bl, ↓ev_str, ↓ev_non, List.getElem?_cons_zero, List.getElem?_cons_succ, List.set_cons_zero, List.set_cons_succ, List.length_cons, List.length_nil, List.map_cons, List.map_nil, List.replicate, List.nil_append, List.cons_append, List.append_nil, if_true, if_false, decide_true, decide_false, Bool.not_true, Bool.not_false, Bool.false_eq_true, Nat.reduceLT, Nat.reduceAdd, Nat.reduceSub, Nat.reduceLeDiff, Nat.zero_add, Nat.add_zero, Nat.sub_zero, Nat.lt_add_one, Nat.zero_lt_succ, and_true, and_self, true_and, ite_true, ite_false, augF])).trans ?_
      refine (exs_nx ?_).trans exs_nil
      have test : ev (envOf P n) (.cmp .gt (.blt .min2 (.cons (.var 2) (.cons (.var 4) .nil))) (.var 7)) [some d, some (.int lo), some (.int hi), some (.ref S.length), some (.int (pl + p.2)), some (.str p.1), some (.int p.2), some (.int (mx lo pl))] (S ++ [.lst (acc.map rowS)]) = .ok (.bl (decide (mx lo pl < mn hi (pl + p.2)))) (S ++ [.lst (acc.map rowS)]) := by
        simp only [ev, evs, evo, evc, asg, asgs, exs_cons, exs_nil, ex, bind_ok, bind_exc, st_ok, st_exc, bind_nx, bind_ret, bind_brk, bind_cnt, bind_xc, fin_ret, fin_nx, fin_exc, asE_some, asB_ok, bop_add, bop_sub, bop_mul, bop_fdiv, bop_mod, cop_lt, cop_le, cop_gt, cop_ge, cop_eq, cop_ne, cop_eqb, cop_neb, blt_abs, blt_lenT, blt_lenL, flat, lLINE0, lLINE1, lLINE2, lLINE3, lLINE4, lLINE5, lLINE6, lLINE7, lLINE8, alloc, sub_fl, sub_tp, seqOf_tup, seqOf_fl, ↓ev_int, ↓ev_bl, ↓ev_str, ↓ev_non, List.getElem?_cons_zero, List.getElem?_cons_succ, List.set_cons_zero, List.set_cons_succ, List.length_cons, List.length_nil, List.map_cons, List.map_nil, List.replicate, List.nil_append, List.cons_append, List.append_nil, if_true, if_false, decide_true, decide_false, Bool.not_true, Bool.not_false, Bool.false_eq_true, Nat.reduceLT, Nat.reduceAdd, Nat.reduceSub, Nat.reduceLeDiff, Nat.zero_add, Nat.add_zero, Nat.sub_zero, Nat.lt_add_one, Nat.zero_lt_succ, and_true, and_self, true_and, ite_true, ite_false, blt_min2]
      rw [ex_ite test]
      by_cases h0 : mx lo pl < mn hi (pl + p.2)
      · rw [decide_eq_true h0, if_pos rfl, if_pos h0]
        have happ := ev_append (C := envOf P n) (b := false) (a := .var 3) (e := .tup (.cons (.var 5) (.cons (.bin .sub (.blt .min2 (.cons (.var 2) (.cons (.var 4) .nil))) (.var 7)) .nil))) (σ := [some d, some (.int lo), some (.int hi), some (.ref S.length), some (.int (pl + p.2)), some (.str p.1), some (.int p.2), some (.int (mx lo pl))]) (S := S ++ [.lst (acc.map rowS)]) (i := S.length) (xs := acc.map rowS) (y := rowS (p.1, mn hi (pl + p.2) - mx lo pl)) (by simp only [ev, evs, evo, evc, asg, asgs, exs_cons, exs_nil, ex, bind_ok, bind_exc, st_ok, st_exc, bind_nx, bind_ret, bind_brk, bind_cnt, bind_xc, fin_ret, fin_nx, fin_exc, asE_some, asB_ok, bop_add, bop_sub, bop_mul, bop_fdiv, bop_mod, cop_lt, cop_le, cop_gt, cop_ge, cop_eq, cop_ne, cop_eqb, cop_neb, blt_abs, blt_lenT, blt_lenL, flat, lLINE0, lLINE1, lLINE2, lLINE3, lLINE4, lLINE5, lLINE6, lLINE7, lLINE8, alloc, sub_fl, sub_tp, seqOf_tup, seqOf_fl, ↓ev_int, ↓ev_bl, ↓ev_str, ↓ev_non, List.getElem?_cons_zero, List.getElem?_cons_succ, List.set_cons_zero, List.set_cons_succ, List.length_cons, List.length_nil, List.map_cons, List.map_nil, List.replicate, List.nil_append, List.cons_append, List.append_nil, if_true, if_false, decide_true, decide_false, Bool.not_true, Bool.not_false, Bool.false_eq_true, Nat.reduceLT, Nat.reduceAdd, Nat.reduceSub, Nat.reduceLeDiff, Nat.zero_add, Nat.add_zero, Nat.sub_zero, Nat.lt_add_one, Nat.zero_lt_succ, and_true, and_self, true_and, ite_true, ite_false]) (by simp only [ev, evs, evo, evc, asg, asgs, exs_cons, exs_nil, ex, bind_ok, bind_exc, st_ok, st_exc, bind_nx, bind_ret, bind_brk, bind_cnt, bind_xc, fin_ret, fin_nx, fin_exc, asE_some, asB_ok, bop_add, bop_sub, bop_mul, bop_fdiv, bop_mod, cop_lt, cop_le, cop_gt, cop_ge, cop_eq, cop_ne, cop_eqb, cop_neb, blt_abs, blt_lenT, blt_lenL, flat, lLINE0, lLINE1, lLINE2, lLINE3, lLINE4, lLINE5, lLINE6, lLINE7, lLINE8, alloc, sub_fl, sub_tp, seqOf_tup, seqOf_fl, ↓ev_int, ↓ev_bl, ↓ev_str, ↓ev_non, List.getElem?_cons_zero, List.getElem?_cons_succ, List.set_cons_zero, List.set_cons_succ, List.length_cons, List.length_nil, List.map_cons, List.map_nil, List.replicate, List.nil_append, List.cons_append, List.append_nil, if_true, if_false, decide_true, decide_false, Bool.not_true, Bool.not_false, Bool.false_eq_true, Nat.reduceLT, Nat.reduceAdd, Nat.reduceSub, Nat.reduceLeDiff, Nat.zero_add, Nat.add_zero, Nat.sub_zero, Nat.lt_add_one, Nat.zero_lt_succ, and_true, and_self, true_and, ite_true, ite_false, blt_min2]; rfl) ga (by rw [List.length_map, LINE_num]; omega)
        rw [last_set] at happ
        rw [exs_cons, ex, happ, st_ok, bind_nx, exs_nil, List.map_append]
        rfl
      · rw [decide_eq_false h0, if_neg (by simp), if_neg h0, List.append_nil, exs_nil]
    rw [List.map_cons, forL_nx (hs _) (σ1 := [some d, some (.int lo), some (.int hi), some (.ref S.length), some (.int pl), some (.str p.1), some (.int p.2), b]) (by unfold rowS; simp only [ev, evs, evo, evc, asg, asgs, exs_cons, exs_nil, ex, bind_ok, bind_exc, st_ok, st_exc, bind_nx, bind_ret, bind_brk, bind_cnt, bind_xc, fin_ret, fin_nx, fin_exc, asE_some, asB_ok, bop_add, bop_sub, bop_mul, bop_fdiv, bop_mod, cop_lt, cop_le, cop_gt, cop_ge, cop_eq, cop_ne, cop_eqb, cop_neb, blt_abs, blt_lenT, blt_lenL, flat, lLINE0, lLINE1, lLINE2, lLINE3, lLINE4, lLINE5, lLINE6, lLINE7, lLINE8, alloc, sub_fl, sub_tp, seqOf_tup, seqOf_fl, ↓ev_int, ↓ev_bl, ↓ev_str, ↓ev_non, List.getElem?_cons_zero, List.getElem?_cons_succ, List.set_cons_zero, List.set_cons_succ, List.length_cons, List.length_nil, List.map_cons, List.map_nil, List.replicate, List.nil_append, List.cons_append, List.append_nil, if_true, if_false, decide_true, decide_false, Bool.not_true, Bool.not_false, Bool.false_eq_true, Nat.reduceLT, Nat.reduceAdd, Nat.reduceSub, Nat.reduceLeDiff, Nat.zero_add, Nat.add_zero, Nat.sub_zero, Nat.lt_add_one, Nat.zero_lt_succ, and_true, and_self, true_and, ite_true, ite_false]) body, h, betw, List.append_assoc]
theorem call_betw (hf : P.fn "rows_between" = some F_rows_between) (n : Nat) (d : D) (lo hi : Int) (S : Store) (ps : List (Str × Int)) (ck : Option (Nat × List D)) (hd : ∀ T, srcOf (S ++ T) d = some (ps.map rowS, ck)) (hl : ps.length < 1000) :
    call P (n + 1) "rows_between" [d, .int lo, .int hi] S = .ok (.ref S.length) (S ++ [.lst ((betw lo hi 0 ps).map rowS)]) := by
  rw [call_fin hf n [d, .int lo, .int hi] S rfl (by decide)]
  obtain ⟨z, x', y', b', h⟩ := betw_loop (P := P) n d lo hi S ck (fun T => walk_src hd) ps [] 0 none none none (by simpa using hl)
  show fin (exs (envOf P n) F_rows_between.body [some d, some (.int lo), some (.int hi), none, none, none, none, none] S) = _
  refine (congrArg fin (exs_nx (σ' := [some d, some (.int lo), some (.int hi), some (.ref S.length), none, none, none, none]) (S' := S ++ [.lst []]) (by simp only [ev, evs, evo, evc, asg, asgs, exs_cons, exs_nil, ex, bind_ok, bind_exc, st_ok, st_exc, bind_nx, bind_ret, bind_brk, bind_cnt, bind_xc, fin_ret, fin_nx, fin_exc, asE_some, asB_ok, bop_add, bop_sub, bop_mul, bop_fdiv, bop_mod, cop_lt, cop_le, cop_gt, cop_ge, cop_eq, cop_ne, cop_eqb, cop_neb, blt_abs, blt_lenT, blt_lenL, flat, lLINE0, lLINE1, lLINE2, lLINE3, lLINE4, lLINE5, lLINE6, lLINE7, lLINE8, alloc, sub_fl, sub_tp, seqOf_tup, seqOf_fl, ↓ev_int, ↓ev_bl, ↓ev_str, ↓ev_non, List.getElem?_cons_zero, List.getElem?_cons_succ, List.set_cons_zero, List.set_cons_succ, List.length_cons, List.length_nil, List.map_cons, List.map_nil, List.replicate, List.nil_append, List.cons_append, List.append_nil, if_true, if_false, decide_true, decide_false, Bool.not_true, Bool.not_false, Bool.false_eq_true, Nat.reduceLT, Nat.reduceAdd, Nat.reduceSub, Nat.reduceLeDiff, Nat.zero_add, Nat.add_zero, Nat.sub_zero, Nat.lt_add_one, Nat.zero_lt_succ, and_true, and_self, true_and, ite_true, ite_false]))).trans ?_
  refine (congrArg fin (exs_nx (σ' := [some d, some (.int lo), some (.int hi), some (.ref S.length), some (.int 0), none, none, none]) (S' := S ++ [.lst []]) (by simp only [ev, evs, evo, evc, asg, asgs, exs_cons, exs_nil, ex, bind_ok, bind_exc, st_ok, st_exc, bind_nx, bind_ret, bind_brk, bind_cnt, bind_xc, fin_ret, fin_nx, fin_exc, asE_some, asB_ok, bop_add, bop_sub, bop_mul, bop_fdiv, bop_mod, cop_lt, cop_le, cop_gt, cop_ge, cop_eq, cop_ne, cop_eqb, cop_neb, blt_abs, blt_lenT, blt_lenL, flat, lLINE0, lLINE1, lLINE2, lLINE3, lLINE4, lLINE5, lLINE6, lLINE7, lLINE8, alloc, sub_fl, sub_tp, seqOf_tup, seqOf_fl, ↓ev_int, ↓ev_bl, ↓ev_str, ↓ev_non, List.getElem?_cons_zero, List.getElem?_cons_succ, List.set_cons_zero, List.set_cons_succ, List.length_cons, List.length_nil, List.map_cons, List.map_nil, List.replicate, List.nil_append, List.cons_append, List.append_nil, if_true, if_false, decide_true, decide_false, Bool.not_true, Bool.not_false, Bool.false_eq_true, Nat.reduceLT, Nat.reduceAdd, Nat.reduceSub, Nat.reduceLeDiff, Nat.zero_add, Nat.add_zero, Nat.sub_zero, Nat.lt_add_one, Nat.zero_lt_succ, and_true, and_self, true_and, ite_true, ite_false]))).trans ?_
  have hi' : evi (envOf P n) (.ex (.var 0)) [some d, some (.int lo), some (.int hi), some (.ref S.length), some (.int 0), none, none, none] (S ++ [.lst []]) = .ok (ps.map rowS, ck) (S ++ [.lst []]) := by
    rw [evi]
    simp only [ev, evs, evo, evc, asg, asgs, exs_cons, exs_nil, ex, bind_ok, bind_exc, st_ok, st_exc, bind_nx, bind_ret, bind_brk, bind_cnt, bind_xc, fin_ret, fin_nx, fin_exc, asE_some, asB_ok, bop_add, bop_sub, bop_mul, bop_fdiv, bop_mod, cop_lt, cop_le, cop_gt, cop_ge, cop_eq, cop_ne, cop_eqb, cop_neb, blt_abs, blt_lenT, blt_lenL, flat, lLINE0, lLINE1, lLINE2, lLINE3, lLINE4, lLINE5, lLINE6, lLINE7, lLINE8, alloc, sub_fl, sub_tp, seqOf_tup, seqOf_fl, ↓ev_int, ↓ev_bl, ↓ev_str, ↓ev_non, List.getElem?_cons_zero, List.getElem?_cons_succ, List.set_cons_zero, List.set_cons_succ, List.length_cons, List.length_nil, List.map_cons, List.map_nil, List.replicate, List.nil_append, List.cons_append, List.append_nil, if_true, if_false, decide_true, decide_false, Bool.not_true, Bool.not_false, Bool.false_eq_true, Nat.reduceLT, Nat.reduceAdd, Nat.reduceSub, Nat.reduceLeDiff, Nat.zero_add, Nat.add_zero, Nat.sub_zero, Nat.lt_add_one, Nat.zero_lt_succ, and_true, and_self, true_and, ite_true, ite_false, hd]
  refine (congrArg fin (exs_nx (σ' := [some d, some (.int lo), some (.int hi), some (.ref S.length), z, x', y', b']) (S' := S ++ [.lst ((betw lo hi 0 ps).map rowS)]) (by rw [ex, hi', st_ok]; exact h))).trans ?_
  simp only [ev, evs, evo, evc, asg, asgs, exs_cons, exs_nil, ex, bind_ok, bind_exc, st_ok, st_exc, bind_nx, bind_ret, bind_brk, bind_cnt, bind_xc, fin_ret, fin_nx, fin_exc, asE_some, asB_ok, bop_add, bop_sub, bop_mul, bop_fdiv, bop_mod, cop_lt, cop_le, cop_gt, cop_ge, cop_eq, cop_ne, cop_eqb, cop_neb, blt_abs, blt_lenT, blt_lenL, flat, lLINE0, lLINE1, lLINE2, lLINE3, lLINE4, lLINE5, lLINE6, lLINE7, lLINE8, alloc, sub_fl, sub_tp, seqOf_tup, seqOf_fl, ↓ev_int, ↓ev_bl, ↓ev_str, ↓ev_non, List.getElem?_cons_zero, List.getElem?_cons_succ, List.set_cons_zero, List.set_cons_succ, List.length_cons, List.length_nil, List.map_cons, List.map_nil, List.replicate, List.nil_append, List.cons_append, List.append_nil, if_true, if_false, decide_true, decide_false, Bool.not_true, Bool.not_false, Bool.false_eq_true, Nat.reduceLT, Nat.reduceAdd, Nat.reduceSub, Nat.reduceLeDiff, Nat.zero_add, Nat.add_zero, Nat.sub_zero, Nat.lt_add_one, Nat.zero_lt_succ, and_true, and_self, true_and, ite_true, ite_false]
theorem frz_betw (hf : P.fn "rows_between" = some F_rows_between) (n : Nat) (ps : List (Str × Int)) (lo hi : Int) (hl : ps.length < 1000) (S : Store) : frzCall (envOf P (n + 1)) "rows_between" [.fl (ps.map rowS), .int lo, .int hi] S = .ok (.fl ((betw lo hi 0 ps).map rowS)) S :=
  frz_boxed (call_betw hf n _ lo hi [] ps none (src_fl _ _) hl) (by simp only [norefs, noref, norefs_rowS]; rfl) (norefs_rowS _)
/-! ### pairs that must not touch -/
def pairS (a b : Str) : D := .tup [.str a, .str b]
def apartB (ap : List D) (a b : Str) : Bool := (ap.any fun y => deqB y (pairS a b)) || ap.any fun y => deqB y (pairS b a)
structure ApOk (ap : List D) : Prop where
  all : ∀ t ∈ ap, ApartD t
theorem ApOk.data {ap : List D} (h : ApOk ap) : ap.all (dataK DK) = true := List.all_eq_true.mpr fun t ht => by
  obtain ⟨a, b, rfl⟩ := h.all t ht; rfl
theorem ApOk.noref {ap : List D} (h : ApOk ap) : norefs ap = true := norefs_of fun t ht => by
  obtain ⟨a, b, rfl⟩ := h.all t ht; rfl
theorem cop_in {ap : List D} (h : ApOk ap) (a b : Str) (S : Store) : cop .inn (pairS a b) (.fl ap) S = .ok (.bl (ap.any fun y => deqB y (pairS a b))) S := by
  have e1 : rbd S (.fl ap) = .fl ap := by
    unfold rbd
    rw [frz_self (by show norefs ap = true; exact h.noref)]
  have e2 : rbd S (pairS a b) = pairS a b := by
    unfold rbd
    rw [frz_self (by rfl)]
  have e3 : inD (pairS a b) ap = some (ap.any fun y => deqB y (pairS a b)) := by
    unfold inD
    rw [h.data]
    rfl
  unfold cop
  simp only [e1, e2, e3]
theorem at_apart (a b c d e : D) (S : Store) : attF S (PT a b c d e) "apart" = some d := by rfl
theorem call_apart (hf : P.fn "are_apart" = some F_are_apart) (n : Nat) (a b c e : D) (ap : List D) (h : ApOk ap) (x y : Str) (S : Store) : call P (n + 1) "are_apart" [PT a b c (.fl ap) e, .str x, .str y] S = .ok (.bl (apartB ap x y)) S := by
  rw [call_fin hf n [PT a b c (.fl ap) e, .str x, .str y] S rfl (by decide)]
  have c1 := cop_in h x y S
  have c2 := cop_in h y x S
  unfold pairS at c1 c2
  have e1 : ev (envOf P n) (.cmp .inn (.tup (.cons (.var 1) (.cons (.var 2) .nil))) (.att (.var 0) "apart")) [some (PT a b c (.fl ap) e), some (.str x), some (.str y)] S = .ok (.bl (ap.any fun t => deqB t (pairS x y))) S := by
    simp only [ev, evs, evo, evc, asg, asgs, exs_cons, exs_nil, ex, bind_ok, bind_exc, st_ok, st_exc, bind_nx, bind_ret, bind_brk, bind_cnt, bind_xc, fin_ret, fin_nx, fin_exc, asE_some, asB_ok, bop_add, bop_sub, bop_mul, bop_fdiv, bop_mod, cop_lt, cop_le, cop_gt, cop_ge, cop_eq, cop_ne, cop_eqb, cop_neb, blt_abs, blt_lenT, blt_lenL, flat, lLINE0, lLINE1, lLINE2, lLINE3, lLINE4, lLINE5, lLINE6, lLINE7, lLINE8, alloc, sub_fl, sub_tp, seqOf_tup, seqOf_fl, ↓ev_int, ↓ev_bl, ↓ev_str, ↓ev_non, List.getElem?_cons_zero, List.getElem?_cons_succ, List.set_cons_zero, List.set_cons_succ, List.length_cons, List.length_nil, List.map_cons, List.map_nil, List.replicate, List.nil_append, List.cons_append, List.append_nil, if_true, if_false, decide_true, decide_false, Bool.not_true, Bool.not_false, Bool.false_eq_true, Nat.reduceLT, Nat.reduceAdd, Nat.reduceSub, Nat.reduceLeDiff, Nat.zero_add, Nat.add_zero, Nat.sub_zero, Nat.lt_add_one, Nat.zero_lt_succ, and_true, and_self, true_and, ite_true, ite_false, at_apart, c1]; rfl
  have e2 : ev (envOf P n) (.cmp .inn (.tup (.cons (.var 2) (.cons (.var 1) .nil))) (.att (.var 0) "apart")) [some (PT a b c (.fl ap) e), some (.str x), some (.str y)] S = .ok (.bl (ap.any fun t => deqB t (pairS y x))) S := by
    simp only [ev, evs, evo, evc, asg, asgs, exs_cons, exs_nil, ex, bind_ok, bind_exc, st_ok, st_exc, bind_nx, bind_ret, bind_brk, bind_cnt, bind_xc, fin_ret, fin_nx, fin_exc, asE_some, asB_ok, bop_add, bop_sub, bop_mul, bop_fdiv, bop_mod, cop_lt, cop_le, cop_gt, cop_ge, cop_eq, cop_ne, cop_eqb, cop_neb, blt_abs, blt_lenT, blt_lenL, flat, lLINE0, lLINE1, lLINE2, lLINE3, lLINE4, lLINE5, lLINE6, lLINE7, lLINE8, alloc, sub_fl, sub_tp, seqOf_tup, seqOf_fl, ↓ev_int, ↓ev_bl, ↓ev_str, ↓ev_non, List.getElem?_cons_zero, List.getElem?_cons_succ, List.set_cons_zero, List.set_cons_succ, List.length_cons, List.length_nil, List.map_cons, List.map_nil, List.replicate, List.nil_append, List.cons_append, List.append_nil, if_true, if_false, decide_true, decide_false, Bool.not_true, Bool.not_false, Bool.false_eq_true, Nat.reduceLT, Nat.reduceAdd, Nat.reduceSub, Nat.reduceLeDiff, Nat.zero_add, Nat.add_zero, Nat.sub_zero, Nat.lt_add_one, Nat.zero_lt_succ, and_true, and_self, true_and, ite_true, ite_false, at_apart, c2]; rfl
  show fin (exs _ (.cons (.ret (.or _ _)) .nil) [some (PT a b c (.fl ap) e), some (.str x), some (.str y)] _) = _
  rw [exs_cons, ex, ev_or e1, e2]
  unfold apartB
  cases (ap.any fun t => deqB t (pairS x y)) <;> rfl
end E1.Fi

set_option maxHeartbeats 2000000
namespace E1.Fi
open PySem (Str)
open E1 E1.Com
variable {P : Prog}
/-! ### the first two that must not touch -/
def firstA (ap : List D) : List (Str × Int) → Option (Str × Str)
  | a :: b :: r => if apartB ap a.1 b.1 then some (a.1, b.1) else firstA ap (b :: r)
  | _ => none
def firstD : Option (Str × Str) → D
  | some p => pairS p.1 p.2
  | none => .non
def fB : Sts := loop1 F_first_apart
def PT4 (a b c : D) (ap : List D) (e : D) : D := PT a b c (.fl ap) e
theorem first_loop (hf : P.fn "are_apart" = some F_are_apart) (n : Nat) (a b c e : D) (hn : noref (PT4 a b c [] e) = true) (ap : List D) (h : ApOk ap) (rs : D) (S : Store) : ∀ (ps : List (Str × Int)) (x y : Option D),
    ∃ x' y', forL (fun d σ S => asg (envOf P (n + 1)) (.tup (.cons (.name 2) (.cons (.name 3) .nil))) d σ S) (fun σ S => exs (envOf P (n + 1)) fB σ S) none (zipD (ps.map rowS) ((ps.map rowS).drop 1)) [some (PT4 a b c ap e), some rs, x, y] S =
      match firstA ap ps with
      | some p => .ret (pairS p.1 p.2) [some (PT4 a b c ap e), some rs, x', y'] S
      | none => .nx [some (PT4 a b c ap e), some rs, x', y'] S
  | [], x, y => ⟨x, y, by simp only [firstA]; exact forL_nil trivial⟩
  | [p], x, y => ⟨x, y, by simp only [firstA]; exact forL_nil trivial⟩
  | p :: q :: r, x, y => by
    obtain ⟨x', y', ih⟩ := first_loop hf n a b c e hn ap h rs S (q :: r) (some (rowS p)) (some (rowS q))
    have z : ∀ (p : Str × Int) S, subF S (rowS p) (.int 0) = some (.str p.1) := fun p S => by rfl
    have fz : ∀ S, frzCall (envOf P (n + 1)) "are_apart" [PT4 a b c ap e, .str p.1, .str q.1] S = .ok (.bl (apartB ap p.1 q.1)) S := fun S => by
      refine frzCall_of (S' := []) ?_ (call_apart hf n a b c e ap h p.1 q.1 []) rfl
      have hn' : (noref a && (noref b && (noref c && (true && (noref e && true))))) = true := hn
      show ((noref a && (noref b && (noref c && (norefs ap && (noref e && true))))) && (true && (true && true))) = true
      rw [h.noref]
      simpa using hn'
    have a1 : asg (envOf P (n + 1)) (.tup (.cons (.name 2) (.cons (.name 3) .nil))) (.tup [rowS p, rowS q]) [some (PT4 a b c ap e), some rs, x, y] S = .ok [some (PT4 a b c ap e), some rs, some (rowS p), some (rowS q)] S := by simp only [ev, evs, evo, evc, asg, asgs, exs_cons, exs_nil, ex, bind_ok, bind_exc, st_ok, st_exc, bind_nx, bind_ret, bind_brk, bind_cnt, bind_xc, fin_ret, fin_nx, fin_exc, asE_some, asB_ok, bop_add, bop_sub, bop_mul, bop_fdiv, bop_mod, cop_lt, cop_le, cop_gt, cop_ge, cop_eq, cop_ne, cop_eqb, cop_neb, blt_abs, blt_lenT, blt_lenL, flat, lLINE0, lLINE1, lLINE2, lLINE3, lLINE4, lLINE5, lLINE6, lLINE7, lLINE8, alloc, sub_fl, sub_tp, seqOf_tup, seqOf_fl, ↓ev_int, ↓ev_bl, ↓ev_str, ↓ev_non, List.getElem?_cons_zero, List.getElem?_cons_succ, List.set_cons_zero, List.set_cons_succ, List.length_cons, List.length_nil, List.map_cons, List.map_nil, List.replicate, List.nil_append, List.cons_append, List.append_nil, if_true, if_false, decide_true, decide_false, Bool.not_true, Bool.not_false, Bool.false_eq_true, Nat.reduceLT, Nat.reduceAdd, Nat.reduceSub, Nat.reduceLeDiff, Nat.zero_add, Nat.add_zero, Nat.sub_zero, Nat.lt_add_one, Nat.zero_lt_succ, and_true, and_self, true_and, ite_true, ite_false]
    have ez : zipD ((p :: q :: r).map rowS) (((p :: q :: r).map rowS).drop 1) = .tup [rowS p, rowS q] :: zipD ((q :: r).map rowS) (((q :: r).map rowS).drop 1) := rfl
    rw [ez]
    have test : ev (envOf P (n + 1)) (.call true "are_apart" (.cons (.var 0) (.cons (.sub (.var 2) (.lit (.int 0))) (.cons (.sub (.var 3) (.lit (.int 0))) .nil)))) [some (PT4 a b c ap e), some rs, some (rowS p), some (rowS q)] S = .ok (.bl (apartB ap p.1 q.1)) S := by
      simp only [ev, evs, evo, evc, asg, asgs, exs_cons, exs_nil, ex, bind_ok, bind_exc, st_ok, st_exc, bind_nx, bind_ret, bind_brk, bind_cnt, bind_xc, fin_ret, fin_nx, fin_exc, asE_some, asB_ok, bop_add, bop_sub, bop_mul, bop_fdiv, bop_mod, cop_lt, cop_le, cop_gt, cop_ge, cop_eq, cop_ne, cop_eqb, cop_neb, blt_abs, blt_lenT, blt_lenL, flat, lLINE0, lLINE1, lLINE2, lLINE3, lLINE4, lLINE5, lLINE6, lLINE7, lLINE8, alloc, sub_fl, sub_tp, seqOf_tup, seqOf_fl, ↓ev_int, ↓ev_bl, ↓ev_str, ↓ev_non, List.getElem?_cons_zero, List.getElem?_cons_succ, List.set_cons_zero, List.set_cons_succ, List.length_cons, List.length_nil, List.map_cons, List.map_nil, List.replicate, List.nil_append, List.cons_append, List.append_nil, if_true, if_false, decide_true, decide_false, Bool.not_true, Bool.not_false, Bool.false_eq_true, Nat.reduceLT, Nat.reduceAdd, Nat.reduceSub, Nat.reduceLeDiff, Nat.zero_add, Nat.add_zero, Nat.sub_zero, Nat.lt_add_one, Nat.zero_lt_succ, and_true, and_self, true_and, ite_true, ite_false, z, fz]
    by_cases hb : apartB ap p.1 q.1 = true
    · refine ⟨some (rowS p), some (rowS q), ?_⟩
      rw [forL_ret (ck := none) trivial a1 (d := pairS p.1 q.1) (σ2 := [some (PT4 a b c ap e), some rs, some (rowS p), some (rowS q)]) (S2 := S) (by
        show exs _ (.cons (.ite _ (.cons (.ret _) .nil) .nil) .nil) _ _ = _
        rw [exs_cons, ex_ite test, hb, if_pos rfl]
        simp only [ev, evs, evo, evc, asg, asgs, exs_cons, exs_nil, ex, bind_ok, bind_exc, st_ok, st_exc, bind_nx, bind_ret, bind_brk, bind_cnt, bind_xc, fin_ret, fin_nx, fin_exc, asE_some, asB_ok, bop_add, bop_sub, bop_mul, bop_fdiv, bop_mod, cop_lt, cop_le, cop_gt, cop_ge, cop_eq, cop_ne, cop_eqb, cop_neb, blt_abs, blt_lenT, blt_lenL, flat, lLINE0, lLINE1, lLINE2, lLINE3, lLINE4, lLINE5, lLINE6, lLINE7, lLINE8, alloc, sub_fl, sub_tp, seqOf_tup, seqOf_fl, ↓ev_int, ↓ev_bl, ↓ev_str, ↓ev_non, List.getElem?_cons_zero, List.getElem?_cons_succ, List.set_cons_zero, List.set_cons_succ, List.length_cons, List.length_nil, List.map_cons, List.map_nil, List.replicate, List.nil_append, List.cons_append, List.append_nil, if_true, if_false, decide_true, decide_false, Bool.not_true, Bool.not_false, Bool.false_eq_true, Nat.reduceLT, Nat.reduceAdd, Nat.reduceSub, Nat.reduceLeDiff, Nat.zero_add, Nat.add_zero, Nat.sub_zero, Nat.lt_add_one, Nat.zero_lt_succ, and_true, and_self, true_and, ite_true, ite_false, z]
        rfl)]
      simp only [firstA, hb, if_true]
    · have hb' : apartB ap p.1 q.1 = false := by simpa using hb
      refine ⟨x', y', ?_⟩
      rw [forL_nx (ck := none) trivial a1 (σ2 := [some (PT4 a b c ap e), some rs, some (rowS p), some (rowS q)]) (S2 := S) (by
        show exs _ (.cons (.ite _ (.cons (.ret _) .nil) .nil) .nil) _ _ = _
        rw [exs_cons, ex_ite test, hb', if_neg (by simp), exs_nil, bind_nx, exs_nil])]
      rw [ih]
      simp only [firstA, hb', Bool.false_eq_true, if_false]
theorem cut_tail {xs : List D} : cut xs (some 1) none = xs.drop 1 := by
  unfold cut cut1
  cases xs with
  | nil => rfl
  | cons x xs => simp
theorem call_first (hP : FHas P) (n : Nat) (a b c e : D) (hn : noref (PT4 a b c [] e) = true) (ap : List D) (h : ApOk ap) (ps : List (Str × Int)) (hl : ps.length < 1000) (S : Store) : call P (n + 2) "first_apart" [PT4 a b c ap e, .fl (ps.map rowS)] S = .ok (firstD (firstA ap ps)) S := by
  rw [call_fin hP.first (n + 1) [PT4 a b c ap e, .fl (ps.map rowS)] S rfl (by decide)]
  obtain ⟨x', y', hh⟩ := first_loop hP.apart n a b c e hn ap h (.fl (ps.map rowS)) S ps none none
  have hi : evi (envOf P (n + 1)) (.zip (.var 1) (.slc false (.var 1) (.so (.lit (.int 1))) .no)) [some (PT4 a b c ap e), some (.fl (ps.map rowS)), none, none] S = .ok (zipD (ps.map rowS) ((ps.map rowS).drop 1), none) S := by
    have e1 := slc_fl (C := envOf P (n + 1)) (a := .var 1) (lo := .so (.lit (.int 1))) (hi := .no) (σ := [some (PT4 a b c ap e), some (.fl (ps.map rowS)), none, none]) (S := S) (x := .fl (ps.map rowS)) (xs := ps.map rowS) (l := some 1) (h := none) (by simp only [ev, evs, evo, evc, asg, asgs, exs_cons, exs_nil, ex, bind_ok, bind_exc, st_ok, st_exc, bind_nx, bind_ret, bind_brk, bind_cnt, bind_xc, fin_ret, fin_nx, fin_exc, asE_some, asB_ok, bop_add, bop_sub, bop_mul, bop_fdiv, bop_mod, cop_lt, cop_le, cop_gt, cop_ge, cop_eq, cop_ne, cop_eqb, cop_neb, blt_abs, blt_lenT, blt_lenL, flat, lLINE0, lLINE1, lLINE2, lLINE3, lLINE4, lLINE5, lLINE6, lLINE7, lLINE8, alloc, sub_fl, sub_tp, seqOf_tup, seqOf_fl, ↓ev_int, ↓ev_bl, ↓ev_str, ↓ev_non, List.getElem?_cons_zero, List.getElem?_cons_succ, List.set_cons_zero, List.set_cons_succ, List.length_cons, List.length_nil, List.map_cons, List.map_nil, List.replicate, List.nil_append, List.cons_append, List.append_nil, if_true, if_false, decide_true, decide_false, Bool.not_true, Bool.not_false, Bool.false_eq_true, Nat.reduceLT, Nat.reduceAdd, Nat.reduceSub, Nat.reduceLeDiff, Nat.zero_add, Nat.add_zero, Nat.sub_zero, Nat.lt_add_one, Nat.zero_lt_succ, and_true, and_self, true_and, ite_true, ite_false]) rfl (by simp only [ev, evs, evo, evc, asg, asgs, exs_cons, exs_nil, ex, bind_ok, bind_exc, st_ok, st_exc, bind_nx, bind_ret, bind_brk, bind_cnt, bind_xc, fin_ret, fin_nx, fin_exc, asE_some, asB_ok, bop_add, bop_sub, bop_mul, bop_fdiv, bop_mod, cop_lt, cop_le, cop_gt, cop_ge, cop_eq, cop_ne, cop_eqb, cop_neb, blt_abs, blt_lenT, blt_lenL, flat, lLINE0, lLINE1, lLINE2, lLINE3, lLINE4, lLINE5, lLINE6, lLINE7, lLINE8, alloc, sub_fl, sub_tp, seqOf_tup, seqOf_fl, ↓ev_int, ↓ev_bl, ↓ev_str, ↓ev_non, List.getElem?_cons_zero, List.getElem?_cons_succ, List.set_cons_zero, List.set_cons_succ, List.length_cons, List.length_nil, List.map_cons, List.map_nil, List.replicate, List.nil_append, List.cons_append, List.append_nil, if_true, if_false, decide_true, decide_false, Bool.not_true, Bool.not_false, Bool.false_eq_true, Nat.reduceLT, Nat.reduceAdd, Nat.reduceSub, Nat.reduceLeDiff, Nat.zero_add, Nat.add_zero, Nat.sub_zero, Nat.lt_add_one, Nat.zero_lt_succ, and_true, and_self, true_and, ite_true, ite_false]) (by rw [evo]) (by rw [List.length_map, LINE_num]; omega)
    rw [evi]
    have e0 : ev (envOf P (n + 1)) (.var 1) [some (PT4 a b c ap e), some (.fl (ps.map rowS)), none, none] S = .ok (.fl (ps.map rowS)) S := by simp only [ev, evs, evo, evc, asg, asgs, exs_cons, exs_nil, ex, bind_ok, bind_exc, st_ok, st_exc, bind_nx, bind_ret, bind_brk, bind_cnt, bind_xc, fin_ret, fin_nx, fin_exc, asE_some, asB_ok, bop_add, bop_sub, bop_mul, bop_fdiv, bop_mod, cop_lt, cop_le, cop_gt, cop_ge, cop_eq, cop_ne, cop_eqb, cop_neb, blt_abs, blt_lenT, blt_lenL, flat, lLINE0, lLINE1, lLINE2, lLINE3, lLINE4, lLINE5, lLINE6, lLINE7, lLINE8, alloc, sub_fl, sub_tp, seqOf_tup, seqOf_fl, ↓ev_int, ↓ev_bl, ↓ev_str, ↓ev_non, List.getElem?_cons_zero, List.getElem?_cons_succ, List.set_cons_zero, List.set_cons_succ, List.length_cons, List.length_nil, List.map_cons, List.map_nil, List.replicate, List.nil_append, List.cons_append, List.append_nil, if_true, if_false, decide_true, decide_false, Bool.not_true, Bool.not_false, Bool.false_eq_true, Nat.reduceLT, Nat.reduceAdd, Nat.reduceSub, Nat.reduceLeDiff, Nat.zero_add, Nat.add_zero, Nat.sub_zero, Nat.lt_add_one, Nat.zero_lt_succ, and_true, and_self, true_and, ite_true, ite_false]
    rw [e0, bind_ok, e1, bind_ok, cut_tail]
    rfl
  show fin (exs _ (.cons (.for_ _ _ _) (.cons (.ret _) .nil)) [some (PT4 a b c ap e), some (.fl (ps.map rowS)), none, none] S) = _
  rw [exs_cons, ex, hi, st_ok]
  change fin ((forL _ (fun σ S => exs (envOf P (n + 1)) fB σ S) _ _ _ _).bind _) = _
  dsimp only
  rw [hh]
  cases firstA ap ps with
  | some p => rfl
  | none => simp only [ev, evs, evo, evc, asg, asgs, exs_cons, exs_nil, ex, bind_ok, bind_exc, st_ok, st_exc, bind_nx, bind_ret, bind_brk, bind_cnt, bind_xc, fin_ret, fin_nx, fin_exc, asE_some, asB_ok, bop_add, bop_sub, bop_mul, bop_fdiv, bop_mod, cop_lt, cop_le, cop_gt, cop_ge, cop_eq, cop_ne, cop_eqb, cop_neb, blt_abs, blt_lenT, blt_lenL, flat, lLINE0, lLINE1, lLINE2, lLINE3, lLINE4, lLINE5, lLINE6, lLINE7, lLINE8, alloc, sub_fl, sub_tp, seqOf_tup, seqOf_fl, ↓ev_int, ↓ev_bl, ↓ev_str, ↓ev_non, List.getElem?_cons_zero, List.getElem?_cons_succ, List.set_cons_zero, List.set_cons_succ, List.length_cons, List.length_nil, List.map_cons, List.map_nil, List.replicate, List.nil_append, List.cons_append, List.append_nil, if_true, if_false, decide_true, decide_false, Bool.not_true, Bool.not_false, Bool.false_eq_true, Nat.reduceLT, Nat.reduceAdd, Nat.reduceSub, Nat.reduceLeDiff, Nat.zero_add, Nat.add_zero, Nat.sub_zero, Nat.lt_add_one, Nat.zero_lt_succ, and_true, and_self, true_and, ite_true, ite_false]; rfl
theorem firstD_flat (o : Option (Str × Str)) : flat (firstD o) = true ∧ noref (firstD o) = true := by
  cases o <;> exact ⟨rfl, rfl⟩
/-! ### places -/
theorem call_place_ (hf : P.fn "place_of" = some F_place_of) (n : Nat) (rooms : List Int) (b c d e : D) (k : Nat) (hl : rooms.length ≤ 100) (S : Store) : call P (n + 1) "place_of" [PT (.fl (rooms.map .int)) b c d e, .int k] S = .ok (.int (rooms.take k).sum) S := by
  rw [call_fin hf n [PT (.fl (rooms.map .int)) b c d e, .int k] S rfl (by decide)]
  have e1 := slc_fl (C := envOf P n) (a := .att (.var 0) "rooms") (lo := .no) (hi := .so (.var 1)) (σ := [some (PT (.fl (rooms.map .int)) b c d e), some (.int k)]) (S := S) (x := .fl (rooms.map .int)) (xs := rooms.map .int) (l := none) (h := some (k : Int)) (by simp only [ev, evs, evo, evc, asg, asgs, exs_cons, exs_nil, ex, bind_ok, bind_exc, st_ok, st_exc, bind_nx, bind_ret, bind_brk, bind_cnt, bind_xc, fin_ret, fin_nx, fin_exc, asE_some, asB_ok, bop_add, bop_sub, bop_mul, bop_fdiv, bop_mod, cop_lt, cop_le, cop_gt, cop_ge, cop_eq, cop_ne, cop_eqb, cop_neb, blt_abs, blt_lenT, blt_lenL, flat, lLINE0, lLINE1, lLINE2, lLINE3, lLINE4, lLINE5, lLINE6, lLINE7, lLINE8, alloc, sub_fl, sub_tp, seqOf_tup, seqOf_fl, ↓ev_int, ↓ev_bl, ↓ev_str, ↓ev_non, List.getElem?_cons_zero, List.getElem?_cons_succ, List.set_cons_zero, List.set_cons_succ, List.length_cons, List.length_nil, List.map_cons, List.map_nil, List.replicate, List.nil_append, List.cons_append, List.append_nil, if_true, if_false, decide_true, decide_false, Bool.not_true, Bool.not_false, Bool.false_eq_true, Nat.reduceLT, Nat.reduceAdd, Nat.reduceSub, Nat.reduceLeDiff, Nat.zero_add, Nat.add_zero, Nat.sub_zero, Nat.lt_add_one, Nat.zero_lt_succ, and_true, and_self, true_and, ite_true, ite_false, at_rooms]) rfl (by rw [evo]) (by simp only [ev, evs, evo, evc, asg, asgs, exs_cons, exs_nil, ex, bind_ok, bind_exc, st_ok, st_exc, bind_nx, bind_ret, bind_brk, bind_cnt, bind_xc, fin_ret, fin_nx, fin_exc, asE_some, asB_ok, bop_add, bop_sub, bop_mul, bop_fdiv, bop_mod, cop_lt, cop_le, cop_gt, cop_ge, cop_eq, cop_ne, cop_eqb, cop_neb, blt_abs, blt_lenT, blt_lenL, flat, lLINE0, lLINE1, lLINE2, lLINE3, lLINE4, lLINE5, lLINE6, lLINE7, lLINE8, alloc, sub_fl, sub_tp, seqOf_tup, seqOf_fl, ↓ev_int, ↓ev_bl, ↓ev_str, ↓ev_non, List.getElem?_cons_zero, List.getElem?_cons_succ, List.set_cons_zero, List.set_cons_succ, List.length_cons, List.length_nil, List.map_cons, List.map_nil, List.replicate, List.nil_append, List.cons_append, List.append_nil, if_true, if_false, decide_true, decide_false, Bool.not_true, Bool.not_false, Bool.false_eq_true, Nat.reduceLT, Nat.reduceAdd, Nat.reduceSub, Nat.reduceLeDiff, Nat.zero_add, Nat.add_zero, Nat.sub_zero, Nat.lt_add_one, Nat.zero_lt_succ, and_true, and_self, true_and, ite_true, ite_false]) (by rw [List.length_map, LINE_num]; omega)
  show fin (exs _ (.cons (.ret (.blt .sum (.cons (.slc false (.att (.var 0) "rooms") .no (.so (.var 1))) .nil))) .nil) [some (PT (.fl (rooms.map .int)) b c d e), some (.int k)] S) = _
  rw [exs_cons, ex, ev, evs, e1, bind_ok, evs, bind_ok, bind_ok, cut_map, blt_sum, st_ok, bind_ret, fin_ret, cut_nat]
theorem call_end (hP : FHas P) (n : Nat) (rooms : List Int) (b c d e : D) (hn : noref (PT (.fl (rooms.map .int)) b c d e) = true) (hl : rooms.length ≤ 100) (S : Store) : call P (n + 2) "end_place" [PT (.fl (rooms.map .int)) b c d e] S = .ok (.int rooms.sum) S := by
  rw [call_fin hP.endp (n + 1) [PT (.fl (rooms.map .int)) b c d e] S rfl (by decide)]
  have fz : ∀ S, frzCall (envOf P (n + 1)) "place_of" [PT (.fl (rooms.map .int)) b c d e, .int rooms.length] S = .ok (.int rooms.sum) S := fun S => by
    have := call_place_ hP.place n rooms b c d e rooms.length hl []
    rw [List.take_length] at this
    exact frzCall_of (S' := []) (by simp only [norefs, hn]; rfl) this rfl
  show fin (exs _ (.cons (.ret _) .nil) [some (PT (.fl (rooms.map .int)) b c d e)] S) = _
  simp only [ev, evs, evo, evc, asg, asgs, exs_cons, exs_nil, ex, bind_ok, bind_exc, st_ok, st_exc, bind_nx, bind_ret, bind_brk, bind_cnt, bind_xc, fin_ret, fin_nx, fin_exc, asE_some, asB_ok, bop_add, bop_sub, bop_mul, bop_fdiv, bop_mod, cop_lt, cop_le, cop_gt, cop_ge, cop_eq, cop_ne, cop_eqb, cop_neb, blt_abs, blt_lenT, blt_lenL, flat, lLINE0, lLINE1, lLINE2, lLINE3, lLINE4, lLINE5, lLINE6, lLINE7, lLINE8, alloc, sub_fl, sub_tp, seqOf_tup, seqOf_fl, ↓ev_int, ↓ev_bl, ↓ev_str, ↓ev_non, List.getElem?_cons_zero, List.getElem?_cons_succ, List.set_cons_zero, List.set_cons_succ, List.length_cons, List.length_nil, List.map_cons, List.map_nil, List.replicate, List.nil_append, List.cons_append, List.append_nil, if_true, if_false, decide_true, decide_false, Bool.not_true, Bool.not_false, Bool.false_eq_true, Nat.reduceLT, Nat.reduceAdd, Nat.reduceSub, Nat.reduceLeDiff, Nat.zero_add, Nat.add_zero, Nat.sub_zero, Nat.lt_add_one, Nat.zero_lt_succ, and_true, and_self, true_and, ite_true, ite_false, at_rooms, List.length_map, fz]
/-! ### a pipe is made -/
theorem set_mid {S0 T : Store} {c d : Cell} : (S0 ++ c :: T).set S0.length d = S0 ++ d :: T := by
  induction S0 with
  | nil => rfl
  | cons x S0 ih => simp only [List.cons_append, List.length_cons, List.set_cons_succ, ih]
theorem get_mid {S0 T : Store} {c : Cell} : (S0 ++ c :: T)[S0.length]? = some c := by simp
theorem set_attM {C : E1.Env} {S0 T : Store} {K : String} {ns : List String} {vs : List D} {f : String} {v : D} (hl : ns.length < 900) (hf : (C.fld K).contains f = true) :
    setAtt C (S0 ++ .ins K ns vs :: T) (.ref S0.length) f v = some (S0 ++ .ins K (putF f v ns vs).1 (putF f v ns vs).2 :: T) := by
  simp only [setAtt, get_mid]
  rw [if_pos ⟨hl, hf⟩, set_mid]
theorem ex_att {C : E1.Env} {S0 T T' : Store} {K : String} {ns : List String} {vs : List D} {f : String} {v : D} {σ : Slots} {e : Ex} (he : ev C e σ (S0 ++ .ins K ns vs :: T) = .ok v (S0 ++ .ins K ns vs :: T')) (h0 : σ[0]? = some (some (.ref S0.length))) (hl : ns.length < 900) (hf : (C.fld K).contains f = true) :
    ex C (.asg (.att (.var 0) f) e) σ (S0 ++ .ins K ns vs :: T) = .nx σ (S0 ++ .ins K (putF f v ns vs).1 (putF f v ns vs).2 :: T') := by
  have e0 : ev C (.var 0) σ (S0 ++ .ins K ns vs :: T') = .ok (.ref S0.length) (S0 ++ .ins K ns vs :: T') := by rw [ev, h0]
  rw [ex, he, st_ok, asg_att e0 (set_attM hl hf)]
theorem blt_listM {x : D} {xs : List D} {S0 T : Store} {c : Cell} (h : seqOf (S0 ++ c :: T) x = some xs) (hl : xs.length ≤ LINE) : blt (.list true) [x] (S0 ++ c :: T) = .ok (.ref (S0.length + 1 + T.length)) (S0 ++ c :: (T ++ [.lst xs])) := by
  rw [blt_listT h hl]
  simp only [List.length_append, List.length_cons, List.append_assoc, List.cons_append]
  congr 2
  omega
theorem call_pinit (hP : FHas P) (n : Nat) (S0 : Store) (a b c d e : D) (xa xb xc xd : List D) (ha : ∀ T, seqOf (S0 ++ T) a = some xa) (hb : ∀ T, seqOf (S0 ++ T) b = some xb) (hc : ∀ T, seqOf (S0 ++ T) c = some xc) (hd : ∀ T, seqOf (S0 ++ T) d = some xd)
    (la : xa.length ≤ LINE) (lb : xb.length ≤ LINE) (lc : xc.length ≤ LINE) (ld : xd.length ≤ LINE) :
    call P (n + 1) "Pipe.__init__" [.ref S0.length, a, b, c, d, e] (S0 ++ [.ins "Pipe" [] []]) = .ok .non (S0 ++ .ins "Pipe" pN [.ref (S0.length + 1), .ref (S0.length + 2), .ref (S0.length + 3), .ref (S0.length + 4), e] :: [.lst xa, .lst xb, .lst xc, .lst xd]) := by
  rw [call_fin hP.pinit n [.ref S0.length, a, b, c, d, e] _ rfl (by decide)]
  have hf : ∀ f, f ∈ pN → ((envOf P n).fld "Pipe").contains f = true := fun f h => by
    show (P.fld "Pipe").contains f = true
    rw [hP.fP]
    simpa [pN] using h
  show fin (exs (envOf P n) F_Pipe___init__.body [some (.ref S0.length), some a, some b, some c, some d, some e] (S0 ++ .ins "Pipe" [] [] :: [])) = _
  refine (congrArg fin (exs_nx (ex_att (v := .ref (S0.length + 1)) (T' := [.lst xa]) (by simp only [ev, evs, evo, evc, asg, asgs, exs_cons, exs_nil, ex, bind_ok, bind_exc, st_ok, st_exc, bind_nx, bind_ret, bind_brk, bind_cnt, bind_xc, fin_ret, fin_nx, fin_exc, asE_some, asB_ok, bop_add, bop_sub, bop_mul, bop_fdiv, bop_mod, cop_lt, cop_le, cop_gt, cop_ge, cop_eq, cop_ne, cop_eqb, cop_neb, blt_abs, blt_lenT, blt_lenL, flat, lLINE0, lLINE1, lLINE2, lLINE3, lLINE4, lLINE5, lLINE6, lLINE7, lLINE8, alloc, sub_fl, sub_tp, seqOf_tup, seqOf_fl, ↓ev_int, ↓ev_bl, ↓ev_str, ↓ev_non, List.getElem?_cons_zero, List.getElem?_cons_succ, List.set_cons_zero, List.set_cons_succ, List.length_cons, List.length_nil, List.map_cons, List.map_nil, List.replicate, List.nil_append, List.cons_append, List.append_nil, if_true, if_false, decide_true, decide_false, Bool.not_true, Bool.not_false, Bool.false_eq_true, Nat.reduceLT, Nat.reduceAdd, Nat.reduceSub, Nat.reduceLeDiff, Nat.zero_add, Nat.add_zero, Nat.sub_zero, Nat.lt_add_one, Nat.zero_lt_succ, and_true, and_self, true_and, ite_true, ite_false, blt_listM (ha _) la]) rfl (by simp) (hf _ (by simp [pN]))))).trans ?_
  refine (congrArg fin (exs_nx (ex_att (v := .ref (S0.length + 2)) (T' := [.lst xa, .lst xb]) (by simp only [ev, evs, evo, evc, asg, asgs, exs_cons, exs_nil, ex, bind_ok, bind_exc, st_ok, st_exc, bind_nx, bind_ret, bind_brk, bind_cnt, bind_xc, fin_ret, fin_nx, fin_exc, asE_some, asB_ok, bop_add, bop_sub, bop_mul, bop_fdiv, bop_mod, cop_lt, cop_le, cop_gt, cop_ge, cop_eq, cop_ne, cop_eqb, cop_neb, blt_abs, blt_lenT, blt_lenL, flat, lLINE0, lLINE1, lLINE2, lLINE3, lLINE4, lLINE5, lLINE6, lLINE7, lLINE8, alloc, sub_fl, sub_tp, seqOf_tup, seqOf_fl, ↓ev_int, ↓ev_bl, ↓ev_str, ↓ev_non, List.getElem?_cons_zero, List.getElem?_cons_succ, List.set_cons_zero, List.set_cons_succ, List.length_cons, List.length_nil, List.map_cons, List.map_nil, List.replicate, List.nil_append, List.cons_append, List.append_nil, if_true, if_false, decide_true, decide_false, Bool.not_true, Bool.not_false, Bool.false_eq_true, Nat.reduceLT, Nat.reduceAdd, Nat.reduceSub, Nat.reduceLeDiff, Nat.zero_add, Nat.add_zero, Nat.sub_zero, Nat.lt_add_one, Nat.zero_lt_succ, and_true, and_self, true_and, ite_true, ite_false, blt_listM (hb _) lb]) rfl (by simp [putF]) (hf _ (by simp [pN]))))).trans ?_
  refine (congrArg fin (exs_nx (ex_att (v := .ref (S0.length + 3)) (T' := [.lst xa, .lst xb, .lst xc]) (by simp only [ev, evs, evo, evc, asg, asgs, exs_cons, exs_nil, ex, bind_ok, bind_exc, st_ok, st_exc, bind_nx, bind_ret, bind_brk, bind_cnt, bind_xc, fin_ret, fin_nx, fin_exc, asE_some, asB_ok, bop_add, bop_sub, bop_mul, bop_fdiv, bop_mod, cop_lt, cop_le, cop_gt, cop_ge, cop_eq, cop_ne, cop_eqb, cop_neb, blt_abs, blt_lenT, blt_lenL, flat, lLINE0, lLINE1, lLINE2, lLINE3, lLINE4, lLINE5, lLINE6, lLINE7, lLINE8, alloc, sub_fl, sub_tp, seqOf_tup, seqOf_fl, ↓ev_int, ↓ev_bl, ↓ev_str, ↓ev_non, List.getElem?_cons_zero, List.getElem?_cons_succ, List.set_cons_zero, List.set_cons_succ, List.length_cons, List.length_nil, List.map_cons, List.map_nil, List.replicate, List.nil_append, List.cons_append, List.append_nil, if_true, if_false, decide_true, decide_false, Bool.not_true, Bool.not_false, Bool.false_eq_true, Nat.reduceLT, Nat.reduceAdd, Nat.reduceSub, Nat.reduceLeDiff, Nat.zero_add, Nat.add_zero, Nat.sub_zero, Nat.lt_add_one, Nat.zero_lt_succ, and_true, and_self, true_and, ite_true, ite_false, blt_listM (hc _) lc]) rfl (by simp [putF]) (hf _ (by simp [pN]))))).trans ?_
  refine (congrArg fin (exs_nx (ex_att (v := .ref (S0.length + 4)) (T' := [.lst xa, .lst xb, .lst xc, .lst xd]) (by simp only [ev, evs, evo, evc, asg, asgs, exs_cons, exs_nil, ex, bind_ok, bind_exc, st_ok, st_exc, bind_nx, bind_ret, bind_brk, bind_cnt, bind_xc, fin_ret, fin_nx, fin_exc, asE_some, asB_ok, bop_add, bop_sub, bop_mul, bop_fdiv, bop_mod, cop_lt, cop_le, cop_gt, cop_ge, cop_eq, cop_ne, cop_eqb, cop_neb, blt_abs, blt_lenT, blt_lenL, flat, lLINE0, lLINE1, lLINE2, lLINE3, lLINE4, lLINE5, lLINE6, lLINE7, lLINE8, alloc, sub_fl, sub_tp, seqOf_tup, seqOf_fl, ↓ev_int, ↓ev_bl, ↓ev_str, ↓ev_non, List.getElem?_cons_zero, List.getElem?_cons_succ, List.set_cons_zero, List.set_cons_succ, List.length_cons, List.length_nil, List.map_cons, List.map_nil, List.replicate, List.nil_append, List.cons_append, List.append_nil, if_true, if_false, decide_true, decide_false, Bool.not_true, Bool.not_false, Bool.false_eq_true, Nat.reduceLT, Nat.reduceAdd, Nat.reduceSub, Nat.reduceLeDiff, Nat.zero_add, Nat.add_zero, Nat.sub_zero, Nat.lt_add_one, Nat.zero_lt_succ, and_true, and_self, true_and, ite_true, ite_false, blt_listM (hd _) ld]) rfl (by simp [putF]) (hf _ (by simp [pN]))))).trans ?_
  refine (congrArg fin (exs_nx (ex_att (v := e) (T' := [.lst xa, .lst xb, .lst xc, .lst xd]) (by simp only [ev, evs, evo, evc, asg, asgs, exs_cons, exs_nil, ex, bind_ok, bind_exc, st_ok, st_exc, bind_nx, bind_ret, bind_brk, bind_cnt, bind_xc, fin_ret, fin_nx, fin_exc, asE_some, asB_ok, bop_add, bop_sub, bop_mul, bop_fdiv, bop_mod, cop_lt, cop_le, cop_gt, cop_ge, cop_eq, cop_ne, cop_eqb, cop_neb, blt_abs, blt_lenT, blt_lenL, flat, lLINE0, lLINE1, lLINE2, lLINE3, lLINE4, lLINE5, lLINE6, lLINE7, lLINE8, alloc, sub_fl, sub_tp, seqOf_tup, seqOf_fl, ↓ev_int, ↓ev_bl, ↓ev_str, ↓ev_non, List.getElem?_cons_zero, List.getElem?_cons_succ, List.set_cons_zero, List.set_cons_succ, List.length_cons, List.length_nil, List.map_cons, List.map_nil, List.replicate, List.nil_append, List.cons_append, List.append_nil, if_true, if_false, decide_true, decide_false, Bool.not_true, Bool.not_false, Bool.false_eq_true, Nat.reduceLT, Nat.reduceAdd, Nat.reduceSub, Nat.reduceLeDiff, Nat.zero_add, Nat.add_zero, Nat.sub_zero, Nat.lt_add_one, Nat.zero_lt_succ, and_true, and_self, true_and, ite_true, ite_false]) rfl (by simp [putF]) (hf _ (by simp [pN]))))).trans ?_
  rw [exs_nil]
  rfl
theorem raw_pipe_ (hP : FHas P) (n : Nat) (S0 : Store) (a b c d e : D) (xa xb xc xd : List D) (ha : ∀ T, seqOf (S0 ++ T) a = some xa) (hb : ∀ T, seqOf (S0 ++ T) b = some xb) (hc : ∀ T, seqOf (S0 ++ T) c = some xc) (hd : ∀ T, seqOf (S0 ++ T) d = some xd)
    (la : xa.length ≤ LINE) (lb : xb.length ≤ LINE) (lc : xc.length ≤ LINE) (ld : xd.length ≤ LINE) :
    rawMake (envOf P (n + 1)) "Pipe" [a, b, c, d, e] S0 = .ok (.ref S0.length) (S0 ++ .ins "Pipe" pN [.ref (S0.length + 1), .ref (S0.length + 2), .ref (S0.length + 3), .ref (S0.length + 4), e] :: [.lst xa, .lst xb, .lst xc, .lst xd]) := by
  unfold rawMake
  have := call_pinit hP n S0 a b c d e xa xb xc xd ha hb hc hd la lb lc ld
  show (R.bind (call P (n + 1) "Pipe.__init__" _ _) _) = _
  rw [this, bind_ok]
end E1.Fi

set_option maxHeartbeats 2000000
namespace E1.Fi
open PySem (Str)
open E1 E1.Com
variable {P : Prog}
/-! ### a content is made -/
structure PipeV (S0 : Store) (pv : D) (rooms : List Int) (tb th ap : List D) (pig : D) : Prop where
  ex : ∃ a b c d, (∀ T, attF (S0 ++ T) pv "rooms" = some a ∧ attF (S0 ++ T) pv "table" = some b ∧ attF (S0 ++ T) pv "thick" = some c ∧ attF (S0 ++ T) pv "apart" = some d ∧ attF (S0 ++ T) pv "pig" = some pig) ∧
    (∀ T, seqOf (S0 ++ T) a = some (rooms.map .int)) ∧ (∀ T, seqOf (S0 ++ T) b = some tb) ∧ (∀ T, seqOf (S0 ++ T) c = some th) ∧ (∀ T, seqOf (S0 ++ T) d = some ap)
  fz : ∀ T, frz 6 (S0 ++ T) pv = some (PT4 (.fl (rooms.map .int)) (.fl tb) (.fl th) ap pig)
  nr : noref (PT4 (.fl (rooms.map .int)) (.fl tb) (.fl th) [] pig) = true
theorem PipeV.tree {S0 : Store} {rooms : List Int} {tb th ap : List D} {pig : D} (h1 : norefs tb = true) (h2 : norefs th = true) (h3 : norefs ap = true) (h4 : noref pig = true) : PipeV S0 (PT4 (.fl (rooms.map .int)) (.fl tb) (.fl th) ap pig) rooms tb th ap pig := by
  have nr : ∀ ap, norefs ap = true → noref (PT4 (.fl (rooms.map .int)) (.fl tb) (.fl th) ap pig) = true := fun ap h => by
    show (norefs _ && (norefs tb && (norefs th && (norefs ap && (noref pig && true))))) = true
    rw [norefs_ints, h1, h2, h, h4]; rfl
  exact ⟨⟨_, _, _, _, fun T => ⟨rfl, rfl, rfl, rfl, rfl⟩, fun T => rfl, fun T => rfl, fun T => rfl, fun T => rfl⟩, fun T => frz_self (nr ap h3), nr [] rfl⟩
structure PipeOk (rooms : List Int) (tb th ap : List D) (pig : D) : Prop where
  l1 : rooms.length ≤ 100
  l2 : tb.length ≤ 100
  l3 : th.length ≤ 1000
  l4 : ap.length ≤ 1000
  ap : ApOk ap
  n2 : norefs tb = true
  n3 : norefs th = true
  n4 : noref pig = true
theorem PipeOk.nr {rooms : List Int} {tb th ap : List D} {pig : D} (h : PipeOk rooms tb th ap pig) : noref (PT4 (.fl (rooms.map .int)) (.fl tb) (.fl th) ap pig) = true := by
  show (norefs _ && (norefs tb && (norefs th && (norefs ap && (noref pig && true))))) = true
  rw [norefs_ints, h.n2, h.n3, h.ap.noref, h.n4]; rfl
def cN : List String := ["pipe", "row_kept", "sinces_kept", "pigs_kept"]
def pipeC (k : Nat) (rooms : List Int) (tb th ap : List D) (pig : D) : Store := .ins "Pipe" pN [.ref (k + 1), .ref (k + 2), .ref (k + 3), .ref (k + 4), pig] :: [.lst (rooms.map .int), .lst tb, .lst th, .lst ap]
def contC (k : Nat) (rooms : List Int) (tb th ap : List D) (pig : D) (rows : List (Str × Int)) : Store :=
  .ins "Content" cN [.ref (k + 1), .ref (k + 6), .ref (k + 7), .fl []] :: (pipeC (k + 1) rooms tb th ap pig ++ [.lst (rows.map rowS), .lst ((innerP rows).map .int)])
theorem joinR_len (ps : List (Str × Int)) : (joinR ps).length ≤ ps.length := by
  have : ∀ (ps acc : List (Str × Int)), (ps.foldl addR acc).length ≤ acc.length + ps.length := by
    intro ps
    induction ps with
    | nil => intro acc; simp
    | cons p ps ih =>
      intro acc
      have h1 := ih (addR acc p)
      have h2 := addR_len acc p
      simp only [List.foldl_cons, List.length_cons]
      omega
  simpa [joinR] using this ps []
theorem vols_comp {C : E1.Env} {σ : Slots} {S : Store} {ps : List (Str × Int)} {ck : Option (Nat × List D)} {x : Ex} {a b : Nat} (hi : evi C (.ex x) σ S = .ok (ps.map rowS, ck) S) (hs : stands S ck) (hl : ps.length < 1000) (ha : a < σ.length) (hb : b < σ.length) (hab : a ≠ b) :
    ev C (.comp false (.var b) (.tup (.cons (.name a) (.cons (.name b) .nil))) (.ex x) .no [a, b]) σ S = .ok (.fl ((ps.map (·.2)).map .int)) S := by
  obtain ⟨ys, h1, h2, h3⟩ := ev_comp (C := C) (elt := .var b) (tg := .tup (.cons (.name a) (.cons (.name b) .nil))) (it := .ex x) (own := [a, b]) (σ := σ) (S := S) (Rl := fun x y => ∀ p : Str × Int, x = rowS p → y = .int p.2) hi hs (by rw [List.length_map, LINE_num]; omega) (by
    intro x hx
    obtain ⟨p, _, rfl⟩ := List.mem_map.mp hx
    have hw : (wipe σ [a, b]).length = σ.length := by simp [wipe]
    refine ⟨((wipe σ [a, b]).set a (some (.str p.1))).set b (some (.int p.2)), .int p.2, ?_, ?_, fun q hq => ?_⟩
    · unfold rowS
      rw [asg]
      simp only [seqOf_tup, asgs]
      rw [asg_name (by rw [hw]; exact ha), bind_ok, asg_name (by simp [hw]; exact hb), bind_ok]
    · rw [ev]
      rw [List.getElem?_set_self (by simp [hw]; exact hb)]
    · simp [rowS] at hq
      rw [hq.2])
  rw [h1]
  congr 2
  refine List.ext_getElem? fun i => ?_
  rw [List.getElem?_map, List.getElem?_map]
  cases e : ps[i]? with
  | none =>
    have : ps.length ≤ i := List.getElem?_eq_none_iff.mp e
    rw [List.getElem?_eq_none (by rw [h2, List.length_map]; exact this)]; rfl
  | some p =>
    have hi : i < ps.length := (List.getElem?_eq_some_iff.mp e).1
    have hy : i < ys.length := by rw [h2, List.length_map]; exact hi
    rw [List.getElem?_eq_getElem hy, h3 i (rowS p) ys[i] (by rw [List.getElem?_map, e]; rfl) (List.getElem?_eq_getElem hy) p rfl]
    rfl
def ctent (n : Nat) (S : Store) (w : E1.R D) (rooms : List Int) (ap : List D) (ps : List (Str × Int)) : Prop :=
  if (ps.map (·.2)).sum = rooms.sum then
    match firstA ap (joinR ps) with
    | some p => ∃ S', w = .exc ⟨"Touch", ["pair"], [pairS p.1 p.2]⟩ S'
    | none => w = .ok .non S
  else ∃ S', w = .exc ⟨"BadFill", [], []⟩ S'
theorem call_cinit (hP : FHas P) (n : Nat) (S0 : Store) (pv fv : D) (rooms : List Int) (tb th ap : List D) (pig : D) (ps : List (Str × Int)) (ck : Option (Nat × List D)) (hp : PipeV S0 pv rooms tb th ap pig) (ho : PipeOk rooms tb th ap pig) (hfv : ∀ T, srcOf (S0 ++ T) fv = some (ps.map rowS, ck)) (hl : ps.length < 1000) :
    ctent n (S0 ++ contC S0.length rooms tb th ap pig (joinR ps)) (call P (n + 3) "Content.__init__" [.ref S0.length, pv, fv] (S0 ++ [.ins "Content" [] []])) rooms ap ps := by
  rw [call_fin hP.cinit (n + 2) [.ref S0.length, pv, fv] _ rfl (by decide)]
  have hf : ∀ f, f ∈ cN → ((envOf P (n + 2)).fld "Content").contains f = true := fun f h => by
    show (P.fld "Content").contains f = true
    rw [hP.fC]
    simpa [cN] using h
  obtain ⟨a, b, c, d, at_, sa, sb, sc, sd⟩ := hp.ex
  have src : ∀ {T : Store}, (∀ T, srcOf (S0 ++ T) fv = some (ps.map rowS, ck)) → ∀ U, srcOf ((S0 ++ T) ++ U) fv = some (ps.map rowS, ck) := fun h U => by rw [List.append_assoc]; exact h _
  -- the pipe
  let T1 : Store := pipeC (S0.length + 1) rooms tb th ap pig
  have mk : rawMake (envOf P (n + 2)) "Pipe" [a, b, c, d, pig] (S0 ++ .ins "Content" [] [] :: []) = .ok (.ref (S0.length + 1)) (S0 ++ .ins "Content" [] [] :: T1) := by
    have := raw_pipe_ hP (n + 1) (S0 ++ [.ins "Content" [] []]) a b c d pig (rooms.map .int) tb th ap (fun T => by rw [List.append_assoc]; exact sa _) (fun T => by rw [List.append_assoc]; exact sb _) (fun T => by rw [List.append_assoc]; exact sc _) (fun T => by rw [List.append_assoc]; exact sd _)
      (by rw [List.length_map, LINE_num]; have := ho.l1; omega) (by rw [LINE_num]; have := ho.l2; omega) (by rw [LINE_num]; have := ho.l3; omega) (by rw [LINE_num]; have := ho.l4; omega)
    rw [List.length_append] at this
    rw [List.append_assoc] at this
    exact this
  show ctent n _ (fin (exs (envOf P (n + 2)) F_Content___init__.body [some (.ref S0.length), some pv, some fv, none, none, none] (S0 ++ .ins "Content" [] [] :: []))) rooms ap ps
  have e1 : exs (envOf P (n + 2)) F_Content___init__.body [some (.ref S0.length), some pv, some fv, none, none, none] (S0 ++ .ins "Content" [] [] :: []) =
      exs (envOf P (n + 2)) (dropS 1 F_Content___init__.body) [some (.ref S0.length), some pv, some fv, none, none, none] (S0 ++ .ins "Content" ["pipe"] [.ref (S0.length + 1)] :: T1) :=
    exs_nx (ex_att (v := .ref (S0.length + 1)) (T' := T1) (by
      have q := at_ (.ins "Content" [] [] :: [])
      obtain ⟨q1, q2, q3, q4, q5⟩ := q
      simp only [ev, evs, evo, evc, asg, asgs, exs_cons, exs_nil, ex, bind_ok, bind_exc, st_ok, st_exc, bind_nx, bind_ret, bind_brk, bind_cnt, bind_xc, fin_ret, fin_nx, fin_exc, asE_some, asB_ok, bop_add, bop_sub, bop_mul, bop_fdiv, bop_mod, cop_lt, cop_le, cop_gt, cop_ge, cop_eq, cop_ne, cop_eqb, cop_neb, blt_abs, blt_lenT, blt_lenL, flat, lLINE0, lLINE1, lLINE2, lLINE3, lLINE4, lLINE5, lLINE6, lLINE7, lLINE8, alloc, sub_fl, sub_tp, seqOf_tup, seqOf_fl, ↓ev_int, ↓ev_bl, ↓ev_str, ↓ev_non, List.getElem?_cons_zero, List.getElem?_cons_succ, List.set_cons_zero, List.set_cons_succ, List.length_cons, List.length_nil, List.map_cons, List.map_nil, List.replicate, List.nil_append, List.cons_append, List.append_nil, if_true, if_false, decide_true, decide_false, Bool.not_true, Bool.not_false, Bool.false_eq_true, Nat.reduceLT, Nat.reduceAdd, Nat.reduceSub, Nat.reduceLeDiff, Nat.zero_add, Nat.add_zero, Nat.sub_zero, Nat.lt_add_one, Nat.zero_lt_succ, and_true, and_self, true_and, ite_true, ite_false, q1, q2, q3, q4, q5]
      exact mk) rfl (by simp) (hf _ (by simp [cN])))
  -- the rows
  let J : Cell := .lst ((joinR ps).map rowS)
  have e2 : exs (envOf P (n + 2)) (dropS 1 F_Content___init__.body) [some (.ref S0.length), some pv, some fv, none, none, none] (S0 ++ .ins "Content" ["pipe"] [.ref (S0.length + 1)] :: T1) =
      exs (envOf P (n + 2)) (dropS 2 F_Content___init__.body) [some (.ref S0.length), some pv, some fv, none, none, none] (S0 ++ .ins "Content" ["pipe", "row_kept"] [.ref (S0.length + 1), .ref (S0.length + 6)] :: (T1 ++ [J])) :=
    exs_nx (ex_att (v := .ref (S0.length + 6)) (T' := T1 ++ [J]) (by
      have q := call_joined_ "joined_rows" hP.joined (n + 1) fv (S0 ++ .ins "Content" ["pipe"] [.ref (S0.length + 1)] :: T1) ps ck (src hfv) hl
      have ql : (S0 ++ .ins "Content" ["pipe"] [.ref (S0.length + 1)] :: T1).length = S0.length + 6 := by simp [T1, pipeC]
      rw [ql, List.append_assoc] at q
      simp only [ev, evs, evo, evc, asg, asgs, exs_cons, exs_nil, ex, bind_ok, bind_exc, st_ok, st_exc, bind_nx, bind_ret, bind_brk, bind_cnt, bind_xc, fin_ret, fin_nx, fin_exc, asE_some, asB_ok, bop_add, bop_sub, bop_mul, bop_fdiv, bop_mod, cop_lt, cop_le, cop_gt, cop_ge, cop_eq, cop_ne, cop_eqb, cop_neb, blt_abs, blt_lenT, blt_lenL, flat, lLINE0, lLINE1, lLINE2, lLINE3, lLINE4, lLINE5, lLINE6, lLINE7, lLINE8, alloc, sub_fl, sub_tp, seqOf_tup, seqOf_fl, ↓ev_int, ↓ev_bl, ↓ev_str, ↓ev_non, List.getElem?_cons_zero, List.getElem?_cons_succ, List.set_cons_zero, List.set_cons_succ, List.length_cons, List.length_nil, List.map_cons, List.map_nil, List.replicate, List.nil_append, List.cons_append, List.append_nil, if_true, if_false, decide_true, decide_false, Bool.not_true, Bool.not_false, Bool.false_eq_true, Nat.reduceLT, Nat.reduceAdd, Nat.reduceSub, Nat.reduceLeDiff, Nat.zero_add, Nat.add_zero, Nat.sub_zero, Nat.lt_add_one, Nat.zero_lt_succ, and_true, and_self, true_and, ite_true, ite_false]
      exact q) rfl (by simp) (hf _ (by simp [cN])))
  rw [e1, e2]
  -- the sum
  have hi : evi (envOf P (n + 2)) (.ex (.var 2)) [some (.ref S0.length), some pv, some fv, none, none, none] (S0 ++ .ins "Content" ["pipe", "row_kept"] [.ref (S0.length + 1), .ref (S0.length + 6)] :: (T1 ++ [J])) = .ok (ps.map rowS, ck) (S0 ++ .ins "Content" ["pipe", "row_kept"] [.ref (S0.length + 1), .ref (S0.length + 6)] :: (T1 ++ [J])) := by
    rw [evi]; simp only [ev, evs, evo, evc, asg, asgs, exs_cons, exs_nil, ex, bind_ok, bind_exc, st_ok, st_exc, bind_nx, bind_ret, bind_brk, bind_cnt, bind_xc, fin_ret, fin_nx, fin_exc, asE_some, asB_ok, bop_add, bop_sub, bop_mul, bop_fdiv, bop_mod, cop_lt, cop_le, cop_gt, cop_ge, cop_eq, cop_ne, cop_eqb, cop_neb, blt_abs, blt_lenT, blt_lenL, flat, lLINE0, lLINE1, lLINE2, lLINE3, lLINE4, lLINE5, lLINE6, lLINE7, lLINE8, alloc, sub_fl, sub_tp, seqOf_tup, seqOf_fl, ↓ev_int, ↓ev_bl, ↓ev_str, ↓ev_non, List.getElem?_cons_zero, List.getElem?_cons_succ, List.set_cons_zero, List.set_cons_succ, List.length_cons, List.length_nil, List.map_cons, List.map_nil, List.replicate, List.nil_append, List.cons_append, List.append_nil, if_true, if_false, decide_true, decide_false, Bool.not_true, Bool.not_false, Bool.false_eq_true, Nat.reduceLT, Nat.reduceAdd, Nat.reduceSub, Nat.reduceLeDiff, Nat.zero_add, Nat.add_zero, Nat.sub_zero, Nat.lt_add_one, Nat.zero_lt_succ, and_true, and_self, true_and, ite_true, ite_false, hfv]
  have vc := vols_comp (C := envOf P (n + 2)) (a := 3) (b := 4) hi (walk_src hfv) hl (by simp) (by simp) (by decide)
  have fzE : frzCall (envOf P (n + 2)) "end_place" [pv] (S0 ++ .ins "Content" ["pipe", "row_kept"] [.ref (S0.length + 1), .ref (S0.length + 6)] :: (T1 ++ [J])) = .ok (.int rooms.sum) (S0 ++ .ins "Content" ["pipe", "row_kept"] [.ref (S0.length + 1), .ref (S0.length + 6)] :: (T1 ++ [J])) :=
    frzCall_ref (ws := [PT4 (.fl (rooms.map .int)) (.fl tb) (.fl th) ap pig]) (S' := []) (by simp only [List.mapM_cons, List.mapM_nil, hp.fz, Option.bind_eq_bind, Option.bind_some, Option.pure_def]) (call_end hP n rooms _ _ _ _ ho.nr ho.l1 []) rfl rfl
  have test : ev (envOf P (n + 2)) (.cmp .ne (.blt .sum (.cons (.comp false (.var 4) (.tup (.cons (.name 3) (.cons (.name 4) .nil))) (.ex (.var 2)) .no [3, 4]) .nil)) (.call true "end_place" (.cons (.var 1) .nil))) [some (.ref S0.length), some pv, some fv, none, none, none] (S0 ++ .ins "Content" ["pipe", "row_kept"] [.ref (S0.length + 1), .ref (S0.length + 6)] :: (T1 ++ [J])) =
      .ok (.bl (!decide ((ps.map (·.2)).sum = rooms.sum))) (S0 ++ .ins "Content" ["pipe", "row_kept"] [.ref (S0.length + 1), .ref (S0.length + 6)] :: (T1 ++ [J])) := by
    rw [ev, ev, evs, vc, bind_ok, evs, bind_ok, bind_ok, blt_sum, bind_ok]
    simp only [ev, evs, evo, evc, asg, asgs, exs_cons, exs_nil, ex, bind_ok, bind_exc, st_ok, st_exc, bind_nx, bind_ret, bind_brk, bind_cnt, bind_xc, fin_ret, fin_nx, fin_exc, asE_some, asB_ok, bop_add, bop_sub, bop_mul, bop_fdiv, bop_mod, cop_lt, cop_le, cop_gt, cop_ge, cop_eq, cop_ne, cop_eqb, cop_neb, blt_abs, blt_lenT, blt_lenL, flat, lLINE0, lLINE1, lLINE2, lLINE3, lLINE4, lLINE5, lLINE6, lLINE7, lLINE8, alloc, sub_fl, sub_tp, seqOf_tup, seqOf_fl, ↓ev_int, ↓ev_bl, ↓ev_str, ↓ev_non, List.getElem?_cons_zero, List.getElem?_cons_succ, List.set_cons_zero, List.set_cons_succ, List.length_cons, List.length_nil, List.map_cons, List.map_nil, List.replicate, List.nil_append, List.cons_append, List.append_nil, if_true, if_false, decide_true, decide_false, Bool.not_true, Bool.not_false, Bool.false_eq_true, Nat.reduceLT, Nat.reduceAdd, Nat.reduceSub, Nat.reduceLeDiff, Nat.zero_add, Nat.add_zero, Nat.sub_zero, Nat.lt_add_one, Nat.zero_lt_succ, and_true, and_self, true_and, ite_true, ite_false, fzE]
  unfold ctent
  by_cases hsum : (ps.map (·.2)).sum = rooms.sum
  · rw [if_pos hsum]
    have e3 : exs (envOf P (n + 2)) (dropS 2 F_Content___init__.body) [some (.ref S0.length), some pv, some fv, none, none, none] (S0 ++ .ins "Content" ["pipe", "row_kept"] [.ref (S0.length + 1), .ref (S0.length + 6)] :: (T1 ++ [J])) =
        exs (envOf P (n + 2)) (dropS 3 F_Content___init__.body) [some (.ref S0.length), some pv, some fv, none, none, none] (S0 ++ .ins "Content" ["pipe", "row_kept"] [.ref (S0.length + 1), .ref (S0.length + 6)] :: (T1 ++ [J])) := by
      refine exs_nx ?_
      rw [ex_ite test, decide_eq_true hsum, if_neg (by simp), exs_nil]
    rw [e3]
    have gJ : (S0 ++ .ins "Content" ["pipe", "row_kept"] [.ref (S0.length + 1), .ref (S0.length + 6)] :: (T1 ++ [J]))[S0.length + 6]? = some J := by
      rw [List.getElem?_append_right (by omega)]
      simp [T1, pipeC]
    have gS : attF (S0 ++ .ins "Content" ["pipe", "row_kept"] [.ref (S0.length + 1), .ref (S0.length + 6)] :: (T1 ++ [J])) (.ref S0.length) "row_kept" = some (.ref (S0.length + 6)) := by
      unfold attF
      simp only [rb, get_mid]
      rfl
    have fzF : frzCall (envOf P (n + 2)) "first_apart" [pv, .ref (S0.length + 6)] (S0 ++ .ins "Content" ["pipe", "row_kept"] [.ref (S0.length + 1), .ref (S0.length + 6)] :: (T1 ++ [J])) = .ok (firstD (firstA ap (joinR ps))) (S0 ++ .ins "Content" ["pipe", "row_kept"] [.ref (S0.length + 1), .ref (S0.length + 6)] :: (T1 ++ [J])) :=
      frzCall_ref (ws := [PT4 (.fl (rooms.map .int)) (.fl tb) (.fl th) ap pig, .fl ((joinR ps).map rowS)]) (S' := []) (by
        simp only [List.mapM_cons, List.mapM_nil, hp.fz, frz_cell (k := 5) gJ (norefs_rowS _), Option.bind_eq_bind, Option.bind_some, Option.pure_def])
        (call_first hP n _ _ _ _ hp.nr ap ho.ap (joinR ps) (by have := joinR_len ps; omega) []) (firstD_flat _).1 (firstD_flat _).2
    have e4 : exs (envOf P (n + 2)) (dropS 3 F_Content___init__.body) [some (.ref S0.length), some pv, some fv, none, none, none] (S0 ++ .ins "Content" ["pipe", "row_kept"] [.ref (S0.length + 1), .ref (S0.length + 6)] :: (T1 ++ [J])) =
        exs (envOf P (n + 2)) (dropS 4 F_Content___init__.body) [some (.ref S0.length), some pv, some fv, none, none, some (firstD (firstA ap (joinR ps)))] (S0 ++ .ins "Content" ["pipe", "row_kept"] [.ref (S0.length + 1), .ref (S0.length + 6)] :: (T1 ++ [J])) :=
      exs_nx (by simp only [ev, evs, evo, evc, asg, asgs, exs_cons, exs_nil, ex, bind_ok, bind_exc, st_ok, st_exc, bind_nx, bind_ret, bind_brk, bind_cnt, bind_xc, fin_ret, fin_nx, fin_exc, asE_some, asB_ok, bop_add, bop_sub, bop_mul, bop_fdiv, bop_mod, cop_lt, cop_le, cop_gt, cop_ge, cop_eq, cop_ne, cop_eqb, cop_neb, blt_abs, blt_lenT, blt_lenL, flat, lLINE0, lLINE1, lLINE2, lLINE3, lLINE4, lLINE5, lLINE6, lLINE7, lLINE8, alloc, sub_fl, sub_tp, seqOf_tup, seqOf_fl, ↓ev_int, ↓ev_bl, ↓ev_str, ↓ev_non, List.getElem?_cons_zero, List.getElem?_cons_succ, List.set_cons_zero, List.set_cons_succ, List.length_cons, List.length_nil, List.map_cons, List.map_nil, List.replicate, List.nil_append, List.cons_append, List.append_nil, if_true, if_false, decide_true, decide_false, Bool.not_true, Bool.not_false, Bool.false_eq_true, Nat.reduceLT, Nat.reduceAdd, Nat.reduceSub, Nat.reduceLeDiff, Nat.zero_add, Nat.add_zero, Nat.sub_zero, Nat.lt_add_one, Nat.zero_lt_succ, and_true, and_self, true_and, ite_true, ite_false, gS, fzF])
    rw [e4]
    cases hfa : firstA ap (joinR ps) with
    | some p =>
      dsimp only
      refine ⟨S0 ++ .ins "Content" ["pipe", "row_kept"] [.ref (S0.length + 1), .ref (S0.length + 6)] :: (T1 ++ [J]), ?_⟩
      show fin (exs _ (.cons (.ite _ (.cons (.raise _ _) .nil) .nil) _) _ _) = _
      rw [exs_cons, ex_ite (p := true) (S1 := S0 ++ .ins "Content" ["pipe", "row_kept"] [.ref (S0.length + 1), .ref (S0.length + 6)] :: (T1 ++ [J])) (by simp only [ev, evs, evo, evc, asg, asgs, exs_cons, exs_nil, ex, bind_ok, bind_exc, st_ok, st_exc, bind_nx, bind_ret, bind_brk, bind_cnt, bind_xc, fin_ret, fin_nx, fin_exc, asE_some, asB_ok, bop_add, bop_sub, bop_mul, bop_fdiv, bop_mod, cop_lt, cop_le, cop_gt, cop_ge, cop_eq, cop_ne, cop_eqb, cop_neb, blt_abs, blt_lenT, blt_lenL, flat, lLINE0, lLINE1, lLINE2, lLINE3, lLINE4, lLINE5, lLINE6, lLINE7, lLINE8, alloc, sub_fl, sub_tp, seqOf_tup, seqOf_fl, ↓ev_int, ↓ev_bl, ↓ev_str, ↓ev_non, List.getElem?_cons_zero, List.getElem?_cons_succ, List.set_cons_zero, List.set_cons_succ, List.length_cons, List.length_nil, List.map_cons, List.map_nil, List.replicate, List.nil_append, List.cons_append, List.append_nil, if_true, if_false, decide_true, decide_false, Bool.not_true, Bool.not_false, Bool.false_eq_true, Nat.reduceLT, Nat.reduceAdd, Nat.reduceSub, Nat.reduceLeDiff, Nat.zero_add, Nat.add_zero, Nat.sub_zero, Nat.lt_add_one, Nat.zero_lt_succ, and_true, and_self, true_and, ite_true, ite_false, firstD, pairS]; rfl), if_pos rfl]
      have hT : (envOf P (n + 2)).fld "Touch" = ["pair"] := hP.fT
      simp only [ev, evs, evo, evc, asg, asgs, exs_cons, exs_nil, ex, bind_ok, bind_exc, st_ok, st_exc, bind_nx, bind_ret, bind_brk, bind_cnt, bind_xc, fin_ret, fin_nx, fin_exc, asE_some, asB_ok, bop_add, bop_sub, bop_mul, bop_fdiv, bop_mod, cop_lt, cop_le, cop_gt, cop_ge, cop_eq, cop_ne, cop_eqb, cop_neb, blt_abs, blt_lenT, blt_lenL, flat, lLINE0, lLINE1, lLINE2, lLINE3, lLINE4, lLINE5, lLINE6, lLINE7, lLINE8, alloc, sub_fl, sub_tp, seqOf_tup, seqOf_fl, ↓ev_int, ↓ev_bl, ↓ev_str, ↓ev_non, List.getElem?_cons_zero, List.getElem?_cons_succ, List.set_cons_zero, List.set_cons_succ, List.length_cons, List.length_nil, List.map_cons, List.map_nil, List.replicate, List.nil_append, List.cons_append, List.append_nil, if_true, if_false, decide_true, decide_false, Bool.not_true, Bool.not_false, Bool.false_eq_true, Nat.reduceLT, Nat.reduceAdd, Nat.reduceSub, Nat.reduceLeDiff, Nat.zero_add, Nat.add_zero, Nat.sub_zero, Nat.lt_add_one, Nat.zero_lt_succ, and_true, and_self, true_and, ite_true, ite_false, firstD, raiseF, hT]
      rfl
    | none =>
      dsimp only
      have e5 : exs (envOf P (n + 2)) (dropS 4 F_Content___init__.body) [some (.ref S0.length), some pv, some fv, none, none, some (firstD none)] (S0 ++ .ins "Content" ["pipe", "row_kept"] [.ref (S0.length + 1), .ref (S0.length + 6)] :: (T1 ++ [J])) =
          exs (envOf P (n + 2)) (dropS 5 F_Content___init__.body) [some (.ref S0.length), some pv, some fv, none, none, some (firstD none)] (S0 ++ .ins "Content" ["pipe", "row_kept"] [.ref (S0.length + 1), .ref (S0.length + 6)] :: (T1 ++ [J])) := by
        refine exs_nx ?_
        rw [ex_ite (p := false) (S1 := S0 ++ .ins "Content" ["pipe", "row_kept"] [.ref (S0.length + 1), .ref (S0.length + 6)] :: (T1 ++ [J])) (by simp only [ev, evs, evo, evc, asg, asgs, exs_cons, exs_nil, ex, bind_ok, bind_exc, st_ok, st_exc, bind_nx, bind_ret, bind_brk, bind_cnt, bind_xc, fin_ret, fin_nx, fin_exc, asE_some, asB_ok, bop_add, bop_sub, bop_mul, bop_fdiv, bop_mod, cop_lt, cop_le, cop_gt, cop_ge, cop_eq, cop_ne, cop_eqb, cop_neb, blt_abs, blt_lenT, blt_lenL, flat, lLINE0, lLINE1, lLINE2, lLINE3, lLINE4, lLINE5, lLINE6, lLINE7, lLINE8, alloc, sub_fl, sub_tp, seqOf_tup, seqOf_fl, ↓ev_int, ↓ev_bl, ↓ev_str, ↓ev_non, List.getElem?_cons_zero, List.getElem?_cons_succ, List.set_cons_zero, List.set_cons_succ, List.length_cons, List.length_nil, List.map_cons, List.map_nil, List.replicate, List.nil_append, List.cons_append, List.append_nil, if_true, if_false, decide_true, decide_false, Bool.not_true, Bool.not_false, Bool.false_eq_true, Nat.reduceLT, Nat.reduceAdd, Nat.reduceSub, Nat.reduceLeDiff, Nat.zero_add, Nat.add_zero, Nat.sub_zero, Nat.lt_add_one, Nat.zero_lt_succ, and_true, and_self, true_and, ite_true, ite_false, firstD]; rfl), if_neg (by simp), exs_nil]
      rw [e5]
      let Q : Cell := .lst ((innerP (joinR ps)).map .int)
      have e6 : exs (envOf P (n + 2)) (dropS 5 F_Content___init__.body) [some (.ref S0.length), some pv, some fv, none, none, some (firstD none)] (S0 ++ .ins "Content" ["pipe", "row_kept"] [.ref (S0.length + 1), .ref (S0.length + 6)] :: (T1 ++ [J])) =
          exs (envOf P (n + 2)) (dropS 6 F_Content___init__.body) [some (.ref S0.length), some pv, some fv, none, none, some (firstD none)] (S0 ++ .ins "Content" ["pipe", "row_kept", "sinces_kept"] [.ref (S0.length + 1), .ref (S0.length + 6), .ref (S0.length + 7)] :: (T1 ++ [J] ++ [Q])) :=
        exs_nx (ex_att (v := .ref (S0.length + 7)) (T' := T1 ++ [J] ++ [Q]) (by
          have q := call_inner hP.inner (n + 1) (.ref (S0.length + 6)) (S0 ++ .ins "Content" ["pipe", "row_kept"] [.ref (S0.length + 1), .ref (S0.length + 6)] :: (T1 ++ [J])) (joinR ps) _ (src_ref gJ) (by have := joinR_len ps; omega)
          have ql : (S0 ++ .ins "Content" ["pipe", "row_kept"] [.ref (S0.length + 1), .ref (S0.length + 6)] :: (T1 ++ [J])).length = S0.length + 7 := by simp [T1, pipeC]
          rw [ql, List.append_assoc] at q
          simp only [ev, evs, evo, evc, asg, asgs, exs_cons, exs_nil, ex, bind_ok, bind_exc, st_ok, st_exc, bind_nx, bind_ret, bind_brk, bind_cnt, bind_xc, fin_ret, fin_nx, fin_exc, asE_some, asB_ok, bop_add, bop_sub, bop_mul, bop_fdiv, bop_mod, cop_lt, cop_le, cop_gt, cop_ge, cop_eq, cop_ne, cop_eqb, cop_neb, blt_abs, blt_lenT, blt_lenL, flat, lLINE0, lLINE1, lLINE2, lLINE3, lLINE4, lLINE5, lLINE6, lLINE7, lLINE8, alloc, sub_fl, sub_tp, seqOf_tup, seqOf_fl, ↓ev_int, ↓ev_bl, ↓ev_str, ↓ev_non, List.getElem?_cons_zero, List.getElem?_cons_succ, List.set_cons_zero, List.set_cons_succ, List.length_cons, List.length_nil, List.map_cons, List.map_nil, List.replicate, List.nil_append, List.cons_append, List.append_nil, if_true, if_false, decide_true, decide_false, Bool.not_true, Bool.not_false, Bool.false_eq_true, Nat.reduceLT, Nat.reduceAdd, Nat.reduceSub, Nat.reduceLeDiff, Nat.zero_add, Nat.add_zero, Nat.sub_zero, Nat.lt_add_one, Nat.zero_lt_succ, and_true, and_self, true_and, ite_true, ite_false, gS]
          exact q) rfl (by simp) (hf _ (by simp [cN])))
      have e7 : exs (envOf P (n + 2)) (dropS 6 F_Content___init__.body) [some (.ref S0.length), some pv, some fv, none, none, some (firstD none)] (S0 ++ .ins "Content" ["pipe", "row_kept", "sinces_kept"] [.ref (S0.length + 1), .ref (S0.length + 6), .ref (S0.length + 7)] :: (T1 ++ [J] ++ [Q])) =
          .nx [some (.ref S0.length), some pv, some fv, none, none, some (firstD none)] (S0 ++ .ins "Content" cN [.ref (S0.length + 1), .ref (S0.length + 6), .ref (S0.length + 7), .fl []] :: (T1 ++ [J] ++ [Q])) :=
        (exs_nx (ex_att (v := .fl []) (T' := T1 ++ [J] ++ [Q]) (by simp only [ev, evs, evo, evc, asg, asgs, exs_cons, exs_nil, ex, bind_ok, bind_exc, st_ok, st_exc, bind_nx, bind_ret, bind_brk, bind_cnt, bind_xc, fin_ret, fin_nx, fin_exc, asE_some, asB_ok, bop_add, bop_sub, bop_mul, bop_fdiv, bop_mod, cop_lt, cop_le, cop_gt, cop_ge, cop_eq, cop_ne, cop_eqb, cop_neb, blt_abs, blt_lenT, blt_lenL, flat, lLINE0, lLINE1, lLINE2, lLINE3, lLINE4, lLINE5, lLINE6, lLINE7, lLINE8, alloc, sub_fl, sub_tp, seqOf_tup, seqOf_fl, ↓ev_int, ↓ev_bl, ↓ev_str, ↓ev_non, List.getElem?_cons_zero, List.getElem?_cons_succ, List.set_cons_zero, List.set_cons_succ, List.length_cons, List.length_nil, List.map_cons, List.map_nil, List.replicate, List.nil_append, List.cons_append, List.append_nil, if_true, if_false, decide_true, decide_false, Bool.not_true, Bool.not_false, Bool.false_eq_true, Nat.reduceLT, Nat.reduceAdd, Nat.reduceSub, Nat.reduceLeDiff, Nat.zero_add, Nat.add_zero, Nat.sub_zero, Nat.lt_add_one, Nat.zero_lt_succ, and_true, and_self, true_and, ite_true, ite_false]) rfl (by simp) (hf _ (by simp [cN])))).trans exs_nil
      rw [e6, e7]
      simp only [fin_nx, contC, T1, J, Q, List.append_assoc]
      rfl
  · rw [if_neg hsum]
    refine ⟨S0 ++ .ins "Content" ["pipe", "row_kept"] [.ref (S0.length + 1), .ref (S0.length + 6)] :: (T1 ++ [J]), ?_⟩
    show fin (exs _ (.cons (.ite _ (.cons (.raise _ _) .nil) .nil) _) _ _) = _
    rw [exs_cons, ex_ite test, decide_eq_false hsum, if_pos (by simp)]
    have hB : (envOf P (n + 2)).fld "BadFill" = [] := hP.fB
    simp only [ev, evs, evo, evc, asg, asgs, exs_cons, exs_nil, ex, bind_ok, bind_exc, st_ok, st_exc, bind_nx, bind_ret, bind_brk, bind_cnt, bind_xc, fin_ret, fin_nx, fin_exc, asE_some, asB_ok, bop_add, bop_sub, bop_mul, bop_fdiv, bop_mod, cop_lt, cop_le, cop_gt, cop_ge, cop_eq, cop_ne, cop_eqb, cop_neb, blt_abs, blt_lenT, blt_lenL, flat, lLINE0, lLINE1, lLINE2, lLINE3, lLINE4, lLINE5, lLINE6, lLINE7, lLINE8, alloc, sub_fl, sub_tp, seqOf_tup, seqOf_fl, ↓ev_int, ↓ev_bl, ↓ev_str, ↓ev_non, List.getElem?_cons_zero, List.getElem?_cons_succ, List.set_cons_zero, List.set_cons_succ, List.length_cons, List.length_nil, List.map_cons, List.map_nil, List.replicate, List.nil_append, List.cons_append, List.append_nil, if_true, if_false, decide_true, decide_false, Bool.not_true, Bool.not_false, Bool.false_eq_true, Nat.reduceLT, Nat.reduceAdd, Nat.reduceSub, Nat.reduceLeDiff, Nat.zero_add, Nat.add_zero, Nat.sub_zero, Nat.lt_add_one, Nat.zero_lt_succ, and_true, and_self, true_and, ite_true, ite_false, raiseF, hB]
end E1.Fi

set_option maxHeartbeats 2000000
namespace E1.Fi
open PySem (Str)
open E1 E1.Com
variable {P : Prog}
/-! ### chains -/
def Ch {α : Type} (R : α → α → Prop) : List α → Prop
  | a :: b :: r => R a b ∧ Ch R (b :: r)
  | _ => True
theorem Ch.snoc {α : Type} {R : α → α → Prop} : ∀ {xs : List α} {x : α}, Ch R xs → (∀ y, xs.getLast? = some y → R y x) → Ch R (xs ++ [x])
  | [], x, _, _ => trivial
  | [a], x, _, h => ⟨h a rfl, trivial⟩
  | a :: b :: r, x, c, h => ⟨c.1, Ch.snoc (xs := b :: r) c.2 fun y e => h y (by rw [List.getLast?_cons_cons]; exact e)⟩
theorem Ch.init {α : Type} {R : α → α → Prop} : ∀ {xs : List α} {x : α}, Ch R (xs ++ [x]) → Ch R xs
  | [], x, _ => trivial
  | [a], x, _ => trivial
  | a :: b :: r, x, c => ⟨c.1, Ch.init (xs := b :: r) c.2⟩
theorem Ch.last {α : Type} {R : α → α → Prop} : ∀ {xs : List α} {x : α}, Ch R (xs ++ [x]) → ∀ y, xs.getLast? = some y → R y x
  | [], x, _, y, e => by cases e
  | [a], x, c, y, e => by simp at e; subst e; exact c.1
  | a :: b :: r, x, c, y, e => Ch.last (xs := b :: r) c.2 y (by rw [List.getLast?_cons_cons] at e; exact e)
def RFill (ap : List D) (a b : Str × Int) : Prop := a.1 = b.1 ∨ apartB ap a.1 b.1 = false
def RRow (ap : List D) (a b : Str × Int) : Prop := a.1 ≠ b.1 ∧ apartB ap a.1 b.1 = false
theorem addR_some {acc : List (Str × Int)} {p q : Str × Int} (h : acc.getLast? = some q) : addR acc p = if q.1 = p.1 then acc.dropLast ++ [(p.1, q.2 + p.2)] else acc ++ [p] := by
  unfold addR; rw [h]
theorem addR_ch {R : Str × Int → Str × Int → Prop} (hR : ∀ a b b', b.1 = b'.1 → R a b → R a b') {acc : List (Str × Int)} {p : Str × Int} (hc : Ch R acc) (hp : ∀ q, acc.getLast? = some q → q.1 = p.1 ∨ R q p) :
    Ch R (addR acc p) ∧ ∃ v, (addR acc p).getLast? = some (p.1, v) := by
  cases h : acc.getLast? with
  | none =>
    have e : acc = [] := by simpa using h
    subst e
    exact ⟨trivial, p.2, rfl⟩
  | some q =>
    obtain ⟨ini, rfl⟩ : ∃ ini, acc = ini ++ [q] := List.getLast?_eq_some_iff.mp h
    rw [addR_some h]
    by_cases hq : q.1 = p.1
    · rw [if_pos hq, List.dropLast_concat]
      exact ⟨hc.init.snoc fun y e => hR y q _ hq (hc.last y e), q.2 + p.2, by simp⟩
    · rw [if_neg hq]
      exact ⟨hc.snoc fun y e => by rw [h] at e; cases e; exact (hp q h).resolve_left hq, p.2, by simp⟩
theorem foldl_ch {R : Str × Int → Str × Int → Prop} (hR : ∀ a b b', b.1 = b'.1 → R a b → R a b') (hR' : ∀ a a' b, a.1 = a'.1 → R a b → R a' b) : ∀ (ps : List (Str × Int)) (acc : List (Str × Int)), Ch R acc → (∀ q p r, acc.getLast? = some q → ps = p :: r → q.1 = p.1 ∨ R q p) → Ch (fun a b => a.1 = b.1 ∨ R a b) ps → Ch R (ps.foldl addR acc)
  | [], acc, h, _, _ => h
  | p :: ps, acc, h, hp, hc => by
    obtain ⟨h1, v, h2⟩ := addR_ch hR h fun q e => hp q p ps e rfl
    refine foldl_ch hR hR' ps _ h1 (fun q p2 r e e2 => ?_) (by
      cases ps with
      | nil => trivial
      | cons a r => exact hc.2)
    rw [h2] at e
    cases e
    subst e2
    rcases hc.1 with z | z
    · exact .inl z
    · exact .inr (hR' p _ p2 rfl z)
theorem firstA_none {ap : List D} : ∀ {ps : List (Str × Int)}, Ch (fun a b => apartB ap a.1 b.1 = false) ps → firstA ap ps = none
  | [], _ => rfl
  | [a], _ => rfl
  | a :: b :: r, h => by
    unfold firstA
    rw [if_neg (by rw [h.1]; simp)]
    exact firstA_none h.2
theorem joined_none {ap : List D} {ps : List (Str × Int)} (h : Ch (RFill ap) ps) : firstA ap (joinR ps) = none :=
  firstA_none (foldl_ch (R := fun a b => apartB ap a.1 b.1 = false) (fun a b b' e q => by rw [← e]; exact q) (fun a a' b e q => by rw [← e]; exact q) ps [] trivial (fun q p r e => by cases e) h)
theorem addR_sum (acc : List (Str × Int)) (p : Str × Int) : ((addR acc p).map (·.2)).sum = (acc.map (·.2)).sum + p.2 := by
  cases h : acc.getLast? with
  | none =>
    have e : acc = [] := by simpa using h
    subst e
    simp [addR]
  | some q =>
    obtain ⟨ini, rfl⟩ : ∃ ini, acc = ini ++ [q] := List.getLast?_eq_some_iff.mp h
    rw [addR_some h]
    split
    · rw [List.dropLast_concat]; simp; omega
    · simp; omega
theorem foldl_sum : ∀ (ps acc : List (Str × Int)), ((ps.foldl addR acc).map (·.2)).sum = (acc.map (·.2)).sum + (ps.map (·.2)).sum
  | [], acc => by simp
  | p :: ps, acc => by
    rw [List.foldl_cons, foldl_sum ps, addR_sum]
    simp; omega
theorem joinR_sum (ps : List (Str × Int)) : ((joinR ps).map (·.2)).sum = (ps.map (·.2)).sum := by
  unfold joinR
  rw [foldl_sum]; simp
theorem addR_all {Q : Str → Prop} {acc : List (Str × Int)} {p : Str × Int} (h : ∀ q ∈ acc, Q q.1 ∧ 1 ≤ q.2) (hp : Q p.1 ∧ 1 ≤ p.2) : ∀ q ∈ addR acc p, Q q.1 ∧ 1 ≤ q.2 := by
  cases e : acc.getLast? with
  | none =>
    have e' : acc = [] := by simpa using e
    subst e'
    intro q hq
    have : q = p := by simpa [addR] using hq
    rw [this]; exact hp
  | some q =>
    obtain ⟨ini, rfl⟩ : ∃ ini, acc = ini ++ [q] := List.getLast?_eq_some_iff.mp e
    rw [addR_some e]
    have hq := h q (by simp)
    intro r hr
    split at hr
    · rw [List.dropLast_concat] at hr
      rcases List.mem_append.mp hr with hr | hr
      · exact h r (by simp [hr])
      · have : r = (p.1, q.2 + p.2) := by simpa using hr
        rw [this]; exact ⟨hp.1, by show 1 ≤ q.2 + p.2; omega⟩
    · rcases List.mem_append.mp hr with hr | hr
      · exact h r hr
      · have : r = p := by simpa using hr
        rw [this]; exact hp
theorem foldl_all {Q : Str → Prop} : ∀ (ps acc : List (Str × Int)), (∀ q ∈ acc, Q q.1 ∧ 1 ≤ q.2) → (∀ q ∈ ps, Q q.1 ∧ 1 ≤ q.2) → ∀ q ∈ ps.foldl addR acc, Q q.1 ∧ 1 ≤ q.2
  | [], acc, h, _ => h
  | p :: ps, acc, h, hp => foldl_all ps _ (addR_all h (hp p (by simp))) fun q hq => hp q (by simp [hq])
theorem joinR_all {Q : Str → Prop} {ps : List (Str × Int)} (h : ∀ q ∈ ps, Q q.1 ∧ 1 ≤ q.2) : ∀ q ∈ joinR ps, Q q.1 ∧ 1 ≤ q.2 := foldl_all ps [] (fun q hq => by cases hq) h
/-! ### the law's words -/
theorem call_at_ (hf : P.fn "_law_at" = some F_law_at) (n : Nat) (ns : List Int) (hl : ns.length ≤ 63) (k : Int) (h0 : 0 ≤ k) (S : Store) : ∃ v, call P (n + 1) "_law_at" [.scr ns, .int k] S = .ok (.int v) S := by
  rw [call_fin hf n [.scr ns, .int k] S rfl (by decide)]
  have hlen : blt .len [.scr ns] S = .ok (.int ns.length) S := by
    show R.ok (D.int ((ns.map D.int).length : Nat)) S = _
    rw [List.length_map]
  show ∃ v, fin (exs _ (.cons (.ite (.cmp .lt (.var 1) (.blt .len (.cons (.var 0) .nil))) (.cons (.ret (.sub (.var 0) (.var 1))) .nil) .nil) (.cons (.ret (.bin .sub (.blt .len (.cons (.var 0) .nil)) (.var 1))) .nil)) [some (.scr ns), some (.int k)] S) = _
  rw [exs_cons, ex_ite (p := decide (k < ns.length)) (S1 := S) (by simp only [ev, evs, evo, evc, asg, asgs, exs_cons, exs_nil, ex, bind_ok, bind_exc, st_ok, st_exc, bind_nx, bind_ret, bind_brk, bind_cnt, bind_xc, fin_ret, fin_nx, fin_exc, asE_some, asB_ok, bop_add, bop_sub, bop_mul, bop_fdiv, bop_mod, cop_lt, cop_le, cop_gt, cop_ge, cop_eq, cop_ne, cop_eqb, cop_neb, blt_abs, blt_lenT, blt_lenL, flat, lLINE0, lLINE1, lLINE2, lLINE3, lLINE4, lLINE5, lLINE6, lLINE7, lLINE8, alloc, sub_fl, sub_tp, seqOf_tup, seqOf_fl, ↓ev_int, ↓ev_bl, ↓ev_str, ↓ev_non, List.getElem?_cons_zero, List.getElem?_cons_succ, List.set_cons_zero, List.set_cons_succ, List.length_cons, List.length_nil, List.map_cons, List.map_nil, List.replicate, List.nil_append, List.cons_append, List.append_nil, if_true, if_false, decide_true, decide_false, Bool.not_true, Bool.not_false, Bool.false_eq_true, Nat.reduceLT, Nat.reduceAdd, Nat.reduceSub, Nat.reduceLeDiff, Nat.zero_add, Nat.add_zero, Nat.sub_zero, Nat.lt_add_one, Nat.zero_lt_succ, and_true, and_self, true_and, ite_true, ite_false, hlen])]
  by_cases hk : k < ns.length
  · rw [decide_eq_true hk, if_pos rfl]
    have hs : subF S (.scr ns) (.int k) = at? (ns.map D.int) k := rfl
    obtain ⟨d, h1, h2⟩ := at_ok (xs := ns.map D.int) (i := k) h0 (by rw [List.length_map]; exact hk)
    obtain ⟨v, _, rfl⟩ := List.mem_map.mp h2
    exact ⟨v, by simp only [ev, evs, evo, evc, asg, asgs, exs_cons, exs_nil, ex, bind_ok, bind_exc, st_ok, st_exc, bind_nx, bind_ret, bind_brk, bind_cnt, bind_xc, fin_ret, fin_nx, fin_exc, asE_some, asB_ok, bop_add, bop_sub, bop_mul, bop_fdiv, bop_mod, cop_lt, cop_le, cop_gt, cop_ge, cop_eq, cop_ne, cop_eqb, cop_neb, blt_abs, blt_lenT, blt_lenL, flat, lLINE0, lLINE1, lLINE2, lLINE3, lLINE4, lLINE5, lLINE6, lLINE7, lLINE8, alloc, sub_fl, sub_tp, seqOf_tup, seqOf_fl, ↓ev_int, ↓ev_bl, ↓ev_str, ↓ev_non, List.getElem?_cons_zero, List.getElem?_cons_succ, List.set_cons_zero, List.set_cons_succ, List.length_cons, List.length_nil, List.map_cons, List.map_nil, List.replicate, List.nil_append, List.cons_append, List.append_nil, if_true, if_false, decide_true, decide_false, Bool.not_true, Bool.not_false, Bool.false_eq_true, Nat.reduceLT, Nat.reduceAdd, Nat.reduceSub, Nat.reduceLeDiff, Nat.zero_add, Nat.add_zero, Nat.sub_zero, Nat.lt_add_one, Nat.zero_lt_succ, and_true, and_self, true_and, ite_true, ite_false, hs, h1]⟩
  · rw [decide_eq_false hk, if_neg (by simp)]
    exact ⟨_, by simp only [ev, evs, evo, evc, asg, asgs, exs_cons, exs_nil, ex, bind_ok, bind_exc, st_ok, st_exc, bind_nx, bind_ret, bind_brk, bind_cnt, bind_xc, fin_ret, fin_nx, fin_exc, asE_some, asB_ok, bop_add, bop_sub, bop_mul, bop_fdiv, bop_mod, cop_lt, cop_le, cop_gt, cop_ge, cop_eq, cop_ne, cop_eqb, cop_neb, blt_abs, blt_lenT, blt_lenL, flat, lLINE0, lLINE1, lLINE2, lLINE3, lLINE4, lLINE5, lLINE6, lLINE7, lLINE8, alloc, sub_fl, sub_tp, seqOf_tup, seqOf_fl, ↓ev_int, ↓ev_bl, ↓ev_str, ↓ev_non, List.getElem?_cons_zero, List.getElem?_cons_succ, List.set_cons_zero, List.set_cons_succ, List.length_cons, List.length_nil, List.map_cons, List.map_nil, List.replicate, List.nil_append, List.cons_append, List.append_nil, if_true, if_false, decide_true, decide_false, Bool.not_true, Bool.not_false, Bool.false_eq_true, Nat.reduceLT, Nat.reduceAdd, Nat.reduceSub, Nat.reduceLeDiff, Nat.zero_add, Nat.add_zero, Nat.sub_zero, Nat.lt_add_one, Nat.zero_lt_succ, and_true, and_self, true_and, ite_true, ite_false, hlen]; rfl⟩
theorem frz_at (hf : P.fn "_law_at" = some F_law_at) (n : Nat) (ns : List Int) (hl : ns.length ≤ 63) (k : Int) (h0 : 0 ≤ k) : ∃ v, ∀ S, frzCall (envOf P (n + 1)) "_law_at" [.scr ns, .int k] S = .ok (.int v) S := by
  obtain ⟨v, hv⟩ := call_at_ hf n ns hl k h0 []
  exact ⟨v, fun S => frzCall_of (S' := []) rfl hv rfl⟩
def T5 (rooms : List Int) (tb th ap : List D) (pig : D) : D := .fl [.fl (rooms.map .int), .fl tb, .fl th, .fl ap, pig]
theorem T5.nr {rooms : List Int} {tb th ap : List D} {pig : D} (h : PipeOk rooms tb th ap pig) : noref (T5 rooms tb th ap pig) = true := by
  show (norefs _ && (norefs tb && (norefs th && (norefs ap && (noref pig && true))))) = true
  rw [norefs_ints, h.n2, h.n3, h.ap.noref, h.n4]; rfl
theorem t5_0 (rooms : List Int) (tb th ap : List D) (pig : D) (S : Store) : subF S (T5 rooms tb th ap pig) (.int 0) = some (.fl (rooms.map .int)) := by rfl
theorem t5_1 (rooms : List Int) (tb th ap : List D) (pig : D) (S : Store) : subF S (T5 rooms tb th ap pig) (.int 1) = some (.fl tb) := by rfl
theorem t5_2 (rooms : List Int) (tb th ap : List D) (pig : D) (S : Store) : subF S (T5 rooms tb th ap pig) (.int 2) = some (.fl th) := by rfl
theorem t5_3 (rooms : List Int) (tb th ap : List D) (pig : D) (S : Store) : subF S (T5 rooms tb th ap pig) (.int 3) = some (.fl ap) := by rfl
theorem t5_4 (rooms : List Int) (tb th ap : List D) (pig : D) (S : Store) : subF S (T5 rooms tb th ap pig) (.int 4) = some pig := by rfl
theorem call_lapart (hf : P.fn "_law_apart" = some F_law_apart) (n : Nat) (rooms : List Int) (tb th : List D) (pig : D) (ap : List D) (h : ApOk ap) (x y : Str) (S : Store) : call P (n + 1) "_law_apart" [T5 rooms tb th ap pig, .str x, .str y] S = .ok (.bl (apartB ap x y)) S := by
  rw [call_fin hf n [T5 rooms tb th ap pig, .str x, .str y] S rfl (by decide)]
  have c1 := cop_in h x y S
  have c2 := cop_in h y x S
  unfold pairS at c1 c2
  have e1 : ev (envOf P n) (.cmp .inn (.tup (.cons (.var 1) (.cons (.var 2) .nil))) (.sub (.var 0) (.lit (.int 3)))) [some (T5 rooms tb th ap pig), some (.str x), some (.str y)] S = .ok (.bl (ap.any fun t => deqB t (pairS x y))) S := by
    simp only [ev, evs, evo, evc, asg, asgs, exs_cons, exs_nil, ex, bind_ok, bind_exc, st_ok, st_exc, bind_nx, bind_ret, bind_brk, bind_cnt, bind_xc, fin_ret, fin_nx, fin_exc, asE_some, asB_ok, bop_add, bop_sub, bop_mul, bop_fdiv, bop_mod, cop_lt, cop_le, cop_gt, cop_ge, cop_eq, cop_ne, cop_eqb, cop_neb, blt_abs, blt_lenT, blt_lenL, flat, lLINE0, lLINE1, lLINE2, lLINE3, lLINE4, lLINE5, lLINE6, lLINE7, lLINE8, alloc, sub_fl, sub_tp, seqOf_tup, seqOf_fl, ↓ev_int, ↓ev_bl, ↓ev_str, ↓ev_non, List.getElem?_cons_zero, List.getElem?_cons_succ, List.set_cons_zero, List.set_cons_succ, List.length_cons, List.length_nil, List.map_cons, List.map_nil, List.replicate, List.nil_append, List.cons_append, List.append_nil, if_true, if_false, decide_true, decide_false, Bool.not_true, Bool.not_false, Bool.false_eq_true, Nat.reduceLT, Nat.reduceAdd, Nat.reduceSub, Nat.reduceLeDiff, Nat.zero_add, Nat.add_zero, Nat.sub_zero, Nat.lt_add_one, Nat.zero_lt_succ, and_true, and_self, true_and, ite_true, ite_false, t5_3, c1]; rfl
  have e2 : ev (envOf P n) (.cmp .inn (.tup (.cons (.var 2) (.cons (.var 1) .nil))) (.sub (.var 0) (.lit (.int 3)))) [some (T5 rooms tb th ap pig), some (.str x), some (.str y)] S = .ok (.bl (ap.any fun t => deqB t (pairS y x))) S := by
    simp only [ev, evs, evo, evc, asg, asgs, exs_cons, exs_nil, ex, bind_ok, bind_exc, st_ok, st_exc, bind_nx, bind_ret, bind_brk, bind_cnt, bind_xc, fin_ret, fin_nx, fin_exc, asE_some, asB_ok, bop_add, bop_sub, bop_mul, bop_fdiv, bop_mod, cop_lt, cop_le, cop_gt, cop_ge, cop_eq, cop_ne, cop_eqb, cop_neb, blt_abs, blt_lenT, blt_lenL, flat, lLINE0, lLINE1, lLINE2, lLINE3, lLINE4, lLINE5, lLINE6, lLINE7, lLINE8, alloc, sub_fl, sub_tp, seqOf_tup, seqOf_fl, ↓ev_int, ↓ev_bl, ↓ev_str, ↓ev_non, List.getElem?_cons_zero, List.getElem?_cons_succ, List.set_cons_zero, List.set_cons_succ, List.length_cons, List.length_nil, List.map_cons, List.map_nil, List.replicate, List.nil_append, List.cons_append, List.append_nil, if_true, if_false, decide_true, decide_false, Bool.not_true, Bool.not_false, Bool.false_eq_true, Nat.reduceLT, Nat.reduceAdd, Nat.reduceSub, Nat.reduceLeDiff, Nat.zero_add, Nat.add_zero, Nat.sub_zero, Nat.lt_add_one, Nat.zero_lt_succ, and_true, and_self, true_and, ite_true, ite_false, t5_3, c2]; rfl
  show fin (exs _ (.cons (.ret (.or _ _)) .nil) [some (T5 rooms tb th ap pig), some (.str x), some (.str y)] _) = _
  rw [exs_cons, ex, ev_or e1, e2]
  unfold apartB
  cases (ap.any fun t => deqB t (pairS x y)) <;> rfl
theorem frz_lapart (hf : P.fn "_law_apart" = some F_law_apart) (n : Nat) {rooms : List Int} {tb th ap : List D} {pig : D} (ho : PipeOk rooms tb th ap pig) (x y : Str) (S : Store) : frzCall (envOf P (n + 1)) "_law_apart" [T5 rooms tb th ap pig, .str x, .str y] S = .ok (.bl (apartB ap x y)) S :=
  frzCall_of (S' := []) (by simp only [norefs, T5.nr ho]; rfl) (call_lapart hf n rooms tb th pig ap ho.ap x y []) rfl
/-! ### a fill is drawn -/
def wB : Sts := match F_law_fill.body with
  | .cons _ (.cons _ (.cons _ (.cons (.while_ _ b) _))) => b
  | _ => .nil
def sgF (five : D) (cell : Int) (ws : List Str) (total : Int) (k : Nat) (rest : Int) (a b c : Option D) : Slots := [some five, some (.int cell), some (.fl (ws.map .str)), some (.int total), some (.ref k), some (.int rest), a, b, c]
structure FillOk (ap : List D) (ws : List Str) (fill : List (Str × Int)) : Prop where
  ch : Ch (RFill ap) fill
  all : ∀ p ∈ fill, p.1 ∈ ws ∧ 1 ≤ p.2
theorem fill_turn (hP : FHas P) (n : Nat) {rooms : List Int} {tb th ap : List D} {pig : D} (ho : PipeOk rooms tb th ap pig) (hr : ∀ r ∈ rooms, 0 ≤ r) (cell : Int) (ws : List Str) (hw : ws.length = 6) (S : Store) (acc : List (Str × Int)) (hf : FillOk ap ws acc) (hl : acc.length ≤ 50) (total rest : Int) (ht : 0 < total) (hre : 0 ≤ rest) (a b c : Option D) :
    ∃ (w : Str) (v rest' : Int) (a' b' c' : Option D), exs (envOf P (n + 1)) wB (sgF (T5 rooms tb th ap pig) cell ws total S.length rest a b c) (S ++ [.lst (acc.map rowS)]) = .nx (sgF (T5 rooms tb th ap pig) cell ws (total - v) S.length rest' a' b' c') (S ++ [.lst ((acc ++ [(w, v)]).map rowS)]) ∧
      FillOk ap ws (acc ++ [(w, v)]) ∧ 1 ≤ v ∧ v ≤ total ∧ (48 < acc.length → v = total) ∧ 0 ≤ rest' := by
  have ga : (S ++ [Cell.lst (acc.map rowS)])[S.length]? = some (.lst (acc.map rowS)) := last_get
  have hlen := blt_lenC ga
  rw [List.length_map] at hlen
  obtain ⟨v0, nv, av, bv⟩ := frz_mix hP.mix n cell (200 + (acc.length : Int)) (by omega) (by omega)
  have z2 : (0 : Int) < 2 := by decide
  have z6 : (0 : Int) < 6 := by decide
  have z360 : (0 : Int) < 360 := by decide
  have d6 : divOk 6 := ⟨by decide, by decide⟩
  have d360 : divOk 360 := ⟨by decide, by decide⟩
  -- the digit
  obtain ⟨one, rest', h1, h1r, e1⟩ : ∃ one rest', 0 ≤ one ∧ 0 ≤ rest' ∧ exs (envOf P (n + 1)) wB (sgF (T5 rooms tb th ap pig) cell ws total S.length rest a b c) (S ++ [.lst (acc.map rowS)]) =
      exs (envOf P (n + 1)) (dropS 2 wB) (sgF (T5 rooms tb th ap pig) cell ws total S.length rest' (some (.int one)) b c) (S ++ [.lst (acc.map rowS)]) := by
    have s1 : exs (envOf P (n + 1)) wB (sgF (T5 rooms tb th ap pig) cell ws total S.length rest a b c) (S ++ [.lst (acc.map rowS)]) = exs (envOf P (n + 1)) (dropS 1 wB) (sgF (T5 rooms tb th ap pig) cell ws total S.length rest (some (.int v0)) b c) (S ++ [.lst (acc.map rowS)]) :=
      exs_nx (by unfold sgF; simp only [ev, evs, evo, evc, asg, asgs, exs_cons, exs_nil, ex, bind_ok, bind_exc, st_ok, st_exc, bind_nx, bind_ret, bind_brk, bind_cnt, bind_xc, fin_ret, fin_nx, fin_exc, asE_some, asB_ok, bop_add, bop_sub, bop_mul, bop_fdiv, bop_mod, cop_lt, cop_le, cop_gt, cop_ge, cop_eq, cop_ne, cop_eqb, cop_neb, blt_abs, blt_lenT, blt_lenL, flat, lLINE0, lLINE1, lLINE2, lLINE3, lLINE4, lLINE5, lLINE6, lLINE7, lLINE8, alloc, sub_fl, sub_tp, seqOf_tup, seqOf_fl, ↓ev_int, ↓ev_bl, ↓ev_str, ↓ev_non, List.getElem?_cons_zero, List.getElem?_cons_succ, List.set_cons_zero, List.set_cons_succ, List.length_cons, List.length_nil, List.map_cons, List.map_nil, List.replicate, List.nil_append, List.cons_append, List.append_nil, if_true, if_false, decide_true, decide_false, Bool.not_true, Bool.not_false, Bool.false_eq_true, Nat.reduceLT, Nat.reduceAdd, Nat.reduceSub, Nat.reduceLeDiff, Nat.zero_add, Nat.add_zero, Nat.sub_zero, Nat.lt_add_one, Nat.zero_lt_succ, and_true, and_self, true_and, ite_true, ite_false, hlen, nv])
    have tst : ev (envOf P (n + 1)) (.cmp .eq (.bin .mod (.var 1) (.lit (.int 2))) (.lit (.int 0))) (sgF (T5 rooms tb th ap pig) cell ws total S.length rest (some (.int v0)) b c) (S ++ [.lst (acc.map rowS)]) = .ok (.bl (decide (cell % 2 = 0))) (S ++ [.lst (acc.map rowS)]) := by
      unfold sgF; simp only [ev, evs, evo, evc, asg, asgs, exs_cons, exs_nil, ex, bind_ok, bind_exc, st_ok, st_exc, bind_nx, bind_ret, bind_brk, bind_cnt, bind_xc, fin_ret, fin_nx, fin_exc, asE_some, asB_ok, bop_add, bop_sub, bop_mul, bop_fdiv, bop_mod, cop_lt, cop_le, cop_gt, cop_ge, cop_eq, cop_ne, cop_eqb, cop_neb, blt_abs, blt_lenT, blt_lenL, flat, lLINE0, lLINE1, lLINE2, lLINE3, lLINE4, lLINE5, lLINE6, lLINE7, lLINE8, alloc, sub_fl, sub_tp, seqOf_tup, seqOf_fl, ↓ev_int, ↓ev_bl, ↓ev_str, ↓ev_non, List.getElem?_cons_zero, List.getElem?_cons_succ, List.set_cons_zero, List.set_cons_succ, List.length_cons, List.length_nil, List.map_cons, List.map_nil, List.replicate, List.nil_append, List.cons_append, List.append_nil, if_true, if_false, decide_true, decide_false, Bool.not_true, Bool.not_false, Bool.false_eq_true, Nat.reduceLT, Nat.reduceAdd, Nat.reduceSub, Nat.reduceLeDiff, Nat.zero_add, Nat.add_zero, Nat.sub_zero, Nat.lt_add_one, Nat.zero_lt_succ, and_true, and_self, true_and, ite_true, ite_false, z2]
    by_cases hc : cell % 2 = 0
    · refine ⟨rest % 360, rest / 360, Int.emod_nonneg _ (by decide), Int.ediv_nonneg hre (by decide), s1.trans (exs_nx ?_)⟩
      rw [ex_ite tst, decide_eq_true hc, if_pos rfl]
      unfold sgF
      simp only [ev, evs, evo, evc, asg, asgs, exs_cons, exs_nil, ex, bind_ok, bind_exc, st_ok, st_exc, bind_nx, bind_ret, bind_brk, bind_cnt, bind_xc, fin_ret, fin_nx, fin_exc, asE_some, asB_ok, bop_add, bop_sub, bop_mul, bop_fdiv, bop_mod, cop_lt, cop_le, cop_gt, cop_ge, cop_eq, cop_ne, cop_eqb, cop_neb, blt_abs, blt_lenT, blt_lenL, flat, lLINE0, lLINE1, lLINE2, lLINE3, lLINE4, lLINE5, lLINE6, lLINE7, lLINE8, alloc, sub_fl, sub_tp, seqOf_tup, seqOf_fl, ↓ev_int, ↓ev_bl, ↓ev_str, ↓ev_non, List.getElem?_cons_zero, List.getElem?_cons_succ, List.set_cons_zero, List.set_cons_succ, List.length_cons, List.length_nil, List.map_cons, List.map_nil, List.replicate, List.nil_append, List.cons_append, List.append_nil, if_true, if_false, decide_true, decide_false, Bool.not_true, Bool.not_false, Bool.false_eq_true, Nat.reduceLT, Nat.reduceAdd, Nat.reduceSub, Nat.reduceLeDiff, Nat.zero_add, Nat.add_zero, Nat.sub_zero, Nat.lt_add_one, Nat.zero_lt_succ, and_true, and_self, true_and, ite_true, ite_false, z360, d360]
    · refine ⟨v0, rest, av, hre, s1.trans (exs_nx ?_)⟩
      rw [ex_ite tst, decide_eq_false hc, if_neg (by simp), exs_nil]
  rw [e1]
  have m6 := mod_in (v := one) z6
  obtain ⟨wd, hw1, hw2⟩ := at_ok (xs := ws.map D.str) (i := one % 6) m6.1 (by rw [List.length_map, hw]; exact m6.2)
  obtain ⟨w0, hw3, rfl⟩ := List.mem_map.mp hw2
  have e2 : exs (envOf P (n + 1)) (dropS 2 wB) (sgF (T5 rooms tb th ap pig) cell ws total S.length rest' (some (.int one)) b c) (S ++ [.lst (acc.map rowS)]) =
      exs (envOf P (n + 1)) (dropS 3 wB) (sgF (T5 rooms tb th ap pig) cell ws total S.length rest' (some (.int one)) (some (.str w0)) c) (S ++ [.lst (acc.map rowS)]) :=
    exs_nx (by unfold sgF; simp only [ev, evs, evo, evc, asg, asgs, exs_cons, exs_nil, ex, bind_ok, bind_exc, st_ok, st_exc, bind_nx, bind_ret, bind_brk, bind_cnt, bind_xc, fin_ret, fin_nx, fin_exc, asE_some, asB_ok, bop_add, bop_sub, bop_mul, bop_fdiv, bop_mod, cop_lt, cop_le, cop_gt, cop_ge, cop_eq, cop_ne, cop_eqb, cop_neb, blt_abs, blt_lenT, blt_lenL, flat, lLINE0, lLINE1, lLINE2, lLINE3, lLINE4, lLINE5, lLINE6, lLINE7, lLINE8, alloc, sub_fl, sub_tp, seqOf_tup, seqOf_fl, ↓ev_int, ↓ev_bl, ↓ev_str, ↓ev_non, List.getElem?_cons_zero, List.getElem?_cons_succ, List.set_cons_zero, List.set_cons_succ, List.length_cons, List.length_nil, List.map_cons, List.map_nil, List.replicate, List.nil_append, List.cons_append, List.append_nil, if_true, if_false, decide_true, decide_false, Bool.not_true, Bool.not_false, Bool.false_eq_true, Nat.reduceLT, Nat.reduceAdd, Nat.reduceSub, Nat.reduceLeDiff, Nat.zero_add, Nat.add_zero, Nat.sub_zero, Nat.lt_add_one, Nat.zero_lt_succ, and_true, and_self, true_and, ite_true, ite_false, z6, hw1])
  rw [e2]
  -- the ware
  obtain ⟨w, hw4, hw5, e3⟩ : ∃ w, w ∈ ws ∧ (∀ q, acc.getLast? = some q → RFill ap q (w, 0)) ∧ exs (envOf P (n + 1)) (dropS 3 wB) (sgF (T5 rooms tb th ap pig) cell ws total S.length rest' (some (.int one)) (some (.str w0)) c) (S ++ [.lst (acc.map rowS)]) =
      exs (envOf P (n + 1)) (dropS 4 wB) (sgF (T5 rooms tb th ap pig) cell ws total S.length rest' (some (.int one)) (some (.str w)) c) (S ++ [.lst (acc.map rowS)]) := by
    cases hacc : acc.getLast? with
    | none =>
      have e : acc = [] := by simpa using hacc
      subst e
      refine ⟨w0, hw3, fun q e => (by cases e), exs_nx ?_⟩
      have hl0 : blt .len [.ref S.length] (S ++ [.lst []]) = .ok (.int 0) (S ++ [.lst []]) := hlen
      rw [ex_ite (p := false) (S1 := S ++ [.lst (([] : List (Str × Int)).map rowS)]) (by
        rw [ev_and (p := false) (S1 := S ++ [.lst (([] : List (Str × Int)).map rowS)]) (by unfold sgF; simp only [ev, evs, evo, evc, asg, asgs, exs_cons, exs_nil, ex, bind_ok, bind_exc, st_ok, st_exc, bind_nx, bind_ret, bind_brk, bind_cnt, bind_xc, fin_ret, fin_nx, fin_exc, asE_some, asB_ok, bop_add, bop_sub, bop_mul, bop_fdiv, bop_mod, cop_lt, cop_le, cop_gt, cop_ge, cop_eq, cop_ne, cop_eqb, cop_neb, blt_abs, blt_lenT, blt_lenL, flat, lLINE0, lLINE1, lLINE2, lLINE3, lLINE4, lLINE5, lLINE6, lLINE7, lLINE8, alloc, sub_fl, sub_tp, seqOf_tup, seqOf_fl, ↓ev_int, ↓ev_bl, ↓ev_str, ↓ev_non, List.getElem?_cons_zero, List.getElem?_cons_succ, List.set_cons_zero, List.set_cons_succ, List.length_cons, List.length_nil, List.map_cons, List.map_nil, List.replicate, List.nil_append, List.cons_append, List.append_nil, if_true, if_false, decide_true, decide_false, Bool.not_true, Bool.not_false, Bool.false_eq_true, Nat.reduceLT, Nat.reduceAdd, Nat.reduceSub, Nat.reduceLeDiff, Nat.zero_add, Nat.add_zero, Nat.sub_zero, Nat.lt_add_one, Nat.zero_lt_succ, and_true, and_self, true_and, ite_true, ite_false, hl0]; rfl)]; rfl), if_neg (by simp), exs_nil]
    | some q =>
      obtain ⟨ini, hini⟩ : ∃ ini, acc = ini ++ [q] := List.getLast?_eq_some_iff.mp hacc
      have gl : at? (acc.map rowS) (-1) = some (rowS q) := by rw [hini, List.map_append]; exact at_neg1
      have gs := sub_cell ga (-1)
      rw [gl] at gs
      have zq : ∀ S, subF S (rowS q) (.int 0) = some (.str q.1) := fun S => by rfl
      have tst : ev (envOf P (n + 1)) (.and (.cmp .gt (.blt .len (.cons (.var 4) .nil)) (.lit (.int 0))) (.call true "_law_apart" (.cons (.var 0) (.cons (.sub (.sub (.var 4) (.neg (.lit (.int 1)))) (.lit (.int 0))) (.cons (.var 7) .nil))))) (sgF (T5 rooms tb th ap pig) cell ws total S.length rest' (some (.int one)) (some (.str w0)) c) (S ++ [.lst (acc.map rowS)]) = .ok (.bl (apartB ap q.1 w0)) (S ++ [.lst (acc.map rowS)]) := by
        rw [ev_and (p := true) (S1 := S ++ [.lst (acc.map rowS)]) (by
          unfold sgF
          simp only [ev, evs, evo, evc, asg, asgs, exs_cons, exs_nil, ex, bind_ok, bind_exc, st_ok, st_exc, bind_nx, bind_ret, bind_brk, bind_cnt, bind_xc, fin_ret, fin_nx, fin_exc, asE_some, asB_ok, bop_add, bop_sub, bop_mul, bop_fdiv, bop_mod, cop_lt, cop_le, cop_gt, cop_ge, cop_eq, cop_ne, cop_eqb, cop_neb, blt_abs, blt_lenT, blt_lenL, flat, lLINE0, lLINE1, lLINE2, lLINE3, lLINE4, lLINE5, lLINE6, lLINE7, lLINE8, alloc, sub_fl, sub_tp, seqOf_tup, seqOf_fl, ↓ev_int, ↓ev_bl, ↓ev_str, ↓ev_non, List.getElem?_cons_zero, List.getElem?_cons_succ, List.set_cons_zero, List.set_cons_succ, List.length_cons, List.length_nil, List.map_cons, List.map_nil, List.replicate, List.nil_append, List.cons_append, List.append_nil, if_true, if_false, decide_true, decide_false, Bool.not_true, Bool.not_false, Bool.false_eq_true, Nat.reduceLT, Nat.reduceAdd, Nat.reduceSub, Nat.reduceLeDiff, Nat.zero_add, Nat.add_zero, Nat.sub_zero, Nat.lt_add_one, Nat.zero_lt_succ, and_true, and_self, true_and, ite_true, ite_false, hlen]
          rw [decide_eq_true (by rw [hini]; simp only [List.length_append, List.length_cons, List.length_nil]; omega)]), if_pos rfl]
        unfold sgF
        simp only [ev, evs, evo, evc, asg, asgs, exs_cons, exs_nil, ex, bind_ok, bind_exc, st_ok, st_exc, bind_nx, bind_ret, bind_brk, bind_cnt, bind_xc, fin_ret, fin_nx, fin_exc, asE_some, asB_ok, bop_add, bop_sub, bop_mul, bop_fdiv, bop_mod, cop_lt, cop_le, cop_gt, cop_ge, cop_eq, cop_ne, cop_eqb, cop_neb, blt_abs, blt_lenT, blt_lenL, flat, lLINE0, lLINE1, lLINE2, lLINE3, lLINE4, lLINE5, lLINE6, lLINE7, lLINE8, alloc, sub_fl, sub_tp, seqOf_tup, seqOf_fl, ↓ev_int, ↓ev_bl, ↓ev_str, ↓ev_non, List.getElem?_cons_zero, List.getElem?_cons_succ, List.set_cons_zero, List.set_cons_succ, List.length_cons, List.length_nil, List.map_cons, List.map_nil, List.replicate, List.nil_append, List.cons_append, List.append_nil, if_true, if_false, decide_true, decide_false, Bool.not_true, Bool.not_false, Bool.false_eq_true, Nat.reduceLT, Nat.reduceAdd, Nat.reduceSub, Nat.reduceLeDiff, Nat.zero_add, Nat.add_zero, Nat.sub_zero, Nat.lt_add_one, Nat.zero_lt_succ, and_true, and_self, true_and, ite_true, ite_false, gs, zq, frz_lapart hP.lapart n ho]
      by_cases hb : apartB ap q.1 w0 = true
      · refine ⟨q.1, (hf.all q (by rw [hini]; simp)).1, fun r e => by cases e; exact .inl rfl, exs_nx ?_⟩
        rw [ex_ite tst, hb, if_pos rfl]
        unfold sgF
        simp only [ev, evs, evo, evc, asg, asgs, exs_cons, exs_nil, ex, bind_ok, bind_exc, st_ok, st_exc, bind_nx, bind_ret, bind_brk, bind_cnt, bind_xc, fin_ret, fin_nx, fin_exc, asE_some, asB_ok, bop_add, bop_sub, bop_mul, bop_fdiv, bop_mod, cop_lt, cop_le, cop_gt, cop_ge, cop_eq, cop_ne, cop_eqb, cop_neb, blt_abs, blt_lenT, blt_lenL, flat, lLINE0, lLINE1, lLINE2, lLINE3, lLINE4, lLINE5, lLINE6, lLINE7, lLINE8, alloc, sub_fl, sub_tp, seqOf_tup, seqOf_fl, ↓ev_int, ↓ev_bl, ↓ev_str, ↓ev_non, List.getElem?_cons_zero, List.getElem?_cons_succ, List.set_cons_zero, List.set_cons_succ, List.length_cons, List.length_nil, List.map_cons, List.map_nil, List.replicate, List.nil_append, List.cons_append, List.append_nil, if_true, if_false, decide_true, decide_false, Bool.not_true, Bool.not_false, Bool.false_eq_true, Nat.reduceLT, Nat.reduceAdd, Nat.reduceSub, Nat.reduceLeDiff, Nat.zero_add, Nat.add_zero, Nat.sub_zero, Nat.lt_add_one, Nat.zero_lt_succ, and_true, and_self, true_and, ite_true, ite_false, gs, zq]
      · have hb' : apartB ap q.1 w0 = false := by simpa using hb
        refine ⟨w0, hw3, fun r e => by cases e; exact .inr hb', exs_nx ?_⟩
        rw [ex_ite tst, hb', if_neg (by simp), exs_nil]
  rw [e3]
  -- the volume
  have hsum : 0 ≤ rooms.sum := by
    have : ∀ l : List Int, (∀ r ∈ l, 0 ≤ r) → 0 ≤ l.sum := by
      intro l
      induction l with
      | nil => intro _; simp
      | cons x l ih => intro h; have := ih fun r hr => h r (by simp [hr]); have := h x (by simp); simp; omega
    exact this rooms hr
  have hmx : 5 ≤ mx 5 (rooms.sum / 6) := by unfold mx; split <;> omega
  have zM : 0 < 1 + mx 5 (rooms.sum / 6) := by omega
  have qM := mod_in (v := one / 6) zM
  have e4 : exs (envOf P (n + 1)) (dropS 4 wB) (sgF (T5 rooms tb th ap pig) cell ws total S.length rest' (some (.int one)) (some (.str w)) c) (S ++ [.lst (acc.map rowS)]) =
      exs (envOf P (n + 1)) (dropS 5 wB) (sgF (T5 rooms tb th ap pig) cell ws total S.length rest' (some (.int one)) (some (.str w)) (some (.int (mn total (1 + one / 6 % (1 + mx 5 (rooms.sum / 6))))))) (S ++ [.lst (acc.map rowS)]) :=
    exs_nx (by unfold sgF; simp only [ev, evs, evo, evc, asg, asgs, exs_cons, exs_nil, ex, bind_ok, bind_exc, st_ok, st_exc, bind_nx, bind_ret, bind_brk, bind_cnt, bind_xc, fin_ret, fin_nx, fin_exc, asE_some, asB_ok, bop_add, bop_sub, bop_mul, bop_fdiv, bop_mod, cop_lt, cop_le, cop_gt, cop_ge, cop_eq, cop_ne, cop_eqb, cop_neb, blt_abs, blt_lenT, blt_lenL, flat, lLINE0, lLINE1, lLINE2, lLINE3, lLINE4, lLINE5, lLINE6, lLINE7, lLINE8, alloc, sub_fl, sub_tp, seqOf_tup, seqOf_fl, ↓ev_int, ↓ev_bl, ↓ev_str, ↓ev_non, List.getElem?_cons_zero, List.getElem?_cons_succ, List.set_cons_zero, List.set_cons_succ, List.length_cons, List.length_nil, List.map_cons, List.map_nil, List.replicate, List.nil_append, List.cons_append, List.append_nil, if_true, if_false, decide_true, decide_false, Bool.not_true, Bool.not_false, Bool.false_eq_true, Nat.reduceLT, Nat.reduceAdd, Nat.reduceSub, Nat.reduceLeDiff, Nat.zero_add, Nat.add_zero, Nat.sub_zero, Nat.lt_add_one, Nat.zero_lt_succ, and_true, and_self, true_and, ite_true, ite_false, t5_0, blt_sum, blt_max2, blt_min2, d6, zM])
  rw [e4]
  obtain ⟨v, hv1, hv2, hv3, e5⟩ : ∃ v, 1 ≤ v ∧ v ≤ total ∧ (48 < acc.length → v = total) ∧ exs (envOf P (n + 1)) (dropS 5 wB) (sgF (T5 rooms tb th ap pig) cell ws total S.length rest' (some (.int one)) (some (.str w)) (some (.int (mn total (1 + one / 6 % (1 + mx 5 (rooms.sum / 6))))))) (S ++ [.lst (acc.map rowS)]) =
      exs (envOf P (n + 1)) (dropS 6 wB) (sgF (T5 rooms tb th ap pig) cell ws total S.length rest' (some (.int one)) (some (.str w)) (some (.int v))) (S ++ [.lst (acc.map rowS)]) := by
    have tst : ev (envOf P (n + 1)) (.cmp .gt (.blt .len (.cons (.var 4) .nil)) (.lit (.int 48))) (sgF (T5 rooms tb th ap pig) cell ws total S.length rest' (some (.int one)) (some (.str w)) (some (.int (mn total (1 + one / 6 % (1 + mx 5 (rooms.sum / 6))))))) (S ++ [.lst (acc.map rowS)]) = .ok (.bl (decide ((48 : Int) < acc.length))) (S ++ [.lst (acc.map rowS)]) := by
      unfold sgF; simp only [ev, evs, evo, evc, asg, asgs, exs_cons, exs_nil, ex, bind_ok, bind_exc, st_ok, st_exc, bind_nx, bind_ret, bind_brk, bind_cnt, bind_xc, fin_ret, fin_nx, fin_exc, asE_some, asB_ok, bop_add, bop_sub, bop_mul, bop_fdiv, bop_mod, cop_lt, cop_le, cop_gt, cop_ge, cop_eq, cop_ne, cop_eqb, cop_neb, blt_abs, blt_lenT, blt_lenL, flat, lLINE0, lLINE1, lLINE2, lLINE3, lLINE4, lLINE5, lLINE6, lLINE7, lLINE8, alloc, sub_fl, sub_tp, seqOf_tup, seqOf_fl, ↓ev_int, ↓ev_bl, ↓ev_str, ↓ev_non, List.getElem?_cons_zero, List.getElem?_cons_succ, List.set_cons_zero, List.set_cons_succ, List.length_cons, List.length_nil, List.map_cons, List.map_nil, List.replicate, List.nil_append, List.cons_append, List.append_nil, if_true, if_false, decide_true, decide_false, Bool.not_true, Bool.not_false, Bool.false_eq_true, Nat.reduceLT, Nat.reduceAdd, Nat.reduceSub, Nat.reduceLeDiff, Nat.zero_add, Nat.add_zero, Nat.sub_zero, Nat.lt_add_one, Nat.zero_lt_succ, and_true, and_self, true_and, ite_true, ite_false, hlen]
    by_cases h48 : (48 : Int) < acc.length
    · refine ⟨total, by omega, Int.le_refl _, fun _ => rfl, exs_nx ?_⟩
      rw [ex_ite tst, decide_eq_true h48, if_pos rfl]
      unfold sgF
      simp only [ev, evs, evo, evc, asg, asgs, exs_cons, exs_nil, ex, bind_ok, bind_exc, st_ok, st_exc, bind_nx, bind_ret, bind_brk, bind_cnt, bind_xc, fin_ret, fin_nx, fin_exc, asE_some, asB_ok, bop_add, bop_sub, bop_mul, bop_fdiv, bop_mod, cop_lt, cop_le, cop_gt, cop_ge, cop_eq, cop_ne, cop_eqb, cop_neb, blt_abs, blt_lenT, blt_lenL, flat, lLINE0, lLINE1, lLINE2, lLINE3, lLINE4, lLINE5, lLINE6, lLINE7, lLINE8, alloc, sub_fl, sub_tp, seqOf_tup, seqOf_fl, ↓ev_int, ↓ev_bl, ↓ev_str, ↓ev_non, List.getElem?_cons_zero, List.getElem?_cons_succ, List.set_cons_zero, List.set_cons_succ, List.length_cons, List.length_nil, List.map_cons, List.map_nil, List.replicate, List.nil_append, List.cons_append, List.append_nil, if_true, if_false, decide_true, decide_false, Bool.not_true, Bool.not_false, Bool.false_eq_true, Nat.reduceLT, Nat.reduceAdd, Nat.reduceSub, Nat.reduceLeDiff, Nat.zero_add, Nat.add_zero, Nat.sub_zero, Nat.lt_add_one, Nat.zero_lt_succ, and_true, and_self, true_and, ite_true, ite_false]
    · refine ⟨mn total (1 + one / 6 % (1 + mx 5 (rooms.sum / 6))), ?_, ?_, fun h => absurd h (by omega), exs_nx ?_⟩
      · unfold mn; split <;> omega
      · unfold mn; split <;> omega
      · rw [ex_ite tst, decide_eq_false h48, if_neg (by simp), exs_nil]
  rw [e5]
  have happ := ev_append (C := envOf P (n + 1)) (b := false) (a := .var 4) (e := .tup (.cons (.var 7) (.cons (.var 8) .nil))) (σ := sgF (T5 rooms tb th ap pig) cell ws total S.length rest' (some (.int one)) (some (.str w)) (some (.int v))) (S := S ++ [.lst (acc.map rowS)]) (i := S.length) (xs := acc.map rowS) (y := rowS (w, v)) (by unfold sgF; simp only [ev, evs, evo, evc, asg, asgs, exs_cons, exs_nil, ex, bind_ok, bind_exc, st_ok, st_exc, bind_nx, bind_ret, bind_brk, bind_cnt, bind_xc, fin_ret, fin_nx, fin_exc, asE_some, asB_ok, bop_add, bop_sub, bop_mul, bop_fdiv, bop_mod, cop_lt, cop_le, cop_gt, cop_ge, cop_eq, cop_ne, cop_eqb, cop_neb, blt_abs, blt_lenT, blt_lenL, flat, lLINE0, lLINE1, lLINE2, lLINE3, lLINE4, lLINE5, lLINE6, lLINE7, lLINE8, alloc, sub_fl, sub_tp, seqOf_tup, seqOf_fl, ↓ev_int, ↓ev_bl, ↓ev_str, ↓ev_non, List.getElem?_cons_zero, List.getElem?_cons_succ, List.set_cons_zero, List.set_cons_succ, List.length_cons, List.length_nil, List.map_cons, List.map_nil, List.replicate, List.nil_append, List.cons_append, List.append_nil, if_true, if_false, decide_true, decide_false, Bool.not_true, Bool.not_false, Bool.false_eq_true, Nat.reduceLT, Nat.reduceAdd, Nat.reduceSub, Nat.reduceLeDiff, Nat.zero_add, Nat.add_zero, Nat.sub_zero, Nat.lt_add_one, Nat.zero_lt_succ, and_true, and_self, true_and, ite_true, ite_false]) (by unfold sgF; simp only [ev, evs, evo, evc, asg, asgs, exs_cons, exs_nil, ex, bind_ok, bind_exc, st_ok, st_exc, bind_nx, bind_ret, bind_brk, bind_cnt, bind_xc, fin_ret, fin_nx, fin_exc, asE_some, asB_ok, bop_add, bop_sub, bop_mul, bop_fdiv, bop_mod, cop_lt, cop_le, cop_gt, cop_ge, cop_eq, cop_ne, cop_eqb, cop_neb, blt_abs, blt_lenT, blt_lenL, flat, lLINE0, lLINE1, lLINE2, lLINE3, lLINE4, lLINE5, lLINE6, lLINE7, lLINE8, alloc, sub_fl, sub_tp, seqOf_tup, seqOf_fl, ↓ev_int, ↓ev_bl, ↓ev_str, ↓ev_non, List.getElem?_cons_zero, List.getElem?_cons_succ, List.set_cons_zero, List.set_cons_succ, List.length_cons, List.length_nil, List.map_cons, List.map_nil, List.replicate, List.nil_append, List.cons_append, List.append_nil, if_true, if_false, decide_true, decide_false, Bool.not_true, Bool.not_false, Bool.false_eq_true, Nat.reduceLT, Nat.reduceAdd, Nat.reduceSub, Nat.reduceLeDiff, Nat.zero_add, Nat.add_zero, Nat.sub_zero, Nat.lt_add_one, Nat.zero_lt_succ, and_true, and_self, true_and, ite_true, ite_false]; rfl) ga (by rw [List.length_map, LINE_num]; omega)
  rw [last_set] at happ
  refine ⟨w, v, rest', some (.int one), some (.str w), some (.int v), ?_, ⟨hf.ch.snoc fun q e => hw5 q e, fun p hp => ?_⟩, hv1, hv2, hv3, h1r⟩
  · refine (exs_nx (σ' := sgF (T5 rooms tb th ap pig) cell ws total S.length rest' (some (.int one)) (some (.str w)) (some (.int v))) (S' := S ++ [.lst (acc.map rowS ++ [rowS (w, v)])]) (by rw [ex, happ, st_ok])).trans ?_
    refine (exs_nx ?_).trans exs_nil
    rw [List.map_append]
    unfold sgF
    simp only [ev, evs, evo, evc, asg, asgs, exs_cons, exs_nil, ex, bind_ok, bind_exc, st_ok, st_exc, bind_nx, bind_ret, bind_brk, bind_cnt, bind_xc, fin_ret, fin_nx, fin_exc, asE_some, asB_ok, bop_add, bop_sub, bop_mul, bop_fdiv, bop_mod, cop_lt, cop_le, cop_gt, cop_ge, cop_eq, cop_ne, cop_eqb, cop_neb, blt_abs, blt_lenT, blt_lenL, flat, lLINE0, lLINE1, lLINE2, lLINE3, lLINE4, lLINE5, lLINE6, lLINE7, lLINE8, alloc, sub_fl, sub_tp, seqOf_tup, seqOf_fl, ↓ev_int, ↓ev_bl, ↓ev_str, ↓ev_non, List.getElem?_cons_zero, List.getElem?_cons_succ, List.set_cons_zero, List.set_cons_succ, List.length_cons, List.length_nil, List.map_cons, List.map_nil, List.replicate, List.nil_append, List.cons_append, List.append_nil, if_true, if_false, decide_true, decide_false, Bool.not_true, Bool.not_false, Bool.false_eq_true, Nat.reduceLT, Nat.reduceAdd, Nat.reduceSub, Nat.reduceLeDiff, Nat.zero_add, Nat.add_zero, Nat.sub_zero, Nat.lt_add_one, Nat.zero_lt_succ, and_true, and_self, true_and, ite_true, ite_false]
  · rcases List.mem_append.mp hp with hp | hp
    · exact hf.all p hp
    · have : p = (w, v) := by simpa using hp
      rw [this]; exact ⟨hw4, hv1⟩
end E1.Fi

set_option maxHeartbeats 2000000
namespace E1.Fi
open PySem (Str)
open E1 E1.Com
variable {P : Prog}
theorem fill_while (hP : FHas P) (n : Nat) {rooms : List Int} {tb th ap : List D} {pig : D} (ho : PipeOk rooms tb th ap pig) (hr : ∀ r ∈ rooms, 0 ≤ r) (cell : Int) (ws : List Str) (hw : ws.length = 6) (S : Store) : ∀ (m : Nat) (acc : List (Str × Int)) (total rest : Int) (a b c : Option D), total.toNat < m → 0 ≤ total → 0 ≤ rest → FillOk ap ws acc → acc.length ≤ 50 → (acc.length = 50 → total = 0) →
    ∃ (fill : List (Str × Int)) (rest' : Int) (a' b' c' : Option D), whileW (turnW (fun σ S => asB (ev (envOf P (n + 1)) (.cmp .gt (.var 3) (.lit (.int 0))) σ S)) (fun σ S => exs (envOf P (n + 1)) wB σ S)) (sgF (T5 rooms tb th ap pig) cell ws total S.length rest a b c, S ++ [.lst (acc.map rowS)]) =
      .nx (sgF (T5 rooms tb th ap pig) cell ws 0 S.length rest' a' b' c') (S ++ [.lst (fill.map rowS)]) ∧ FillOk ap ws fill ∧ fill.length ≤ 50 ∧ (fill.map (·.2)).sum = (acc.map (·.2)).sum + total := by
  intro m
  induction m with
  | zero => intro acc total rest a b c h; omega
  | succ m ih =>
    intro acc total rest a b c hm h0 h1 hf hl hz
    have tst : ∀ total, asB (ev (envOf P (n + 1)) (.cmp .gt (.var 3) (.lit (.int 0))) (sgF (T5 rooms tb th ap pig) cell ws total S.length rest a b c) (S ++ [.lst (acc.map rowS)])) = .ok (decide (0 < total)) (S ++ [.lst (acc.map rowS)]) := fun total => by
      unfold sgF; simp only [ev, evs, evo, evc, asg, asgs, exs_cons, exs_nil, ex, bind_ok, bind_exc, st_ok, st_exc, bind_nx, bind_ret, bind_brk, bind_cnt, bind_xc, fin_ret, fin_nx, fin_exc, asE_some, asB_ok, bop_add, bop_sub, bop_mul, bop_fdiv, bop_mod, cop_lt, cop_le, cop_gt, cop_ge, cop_eq, cop_ne, cop_eqb, cop_neb, blt_abs, blt_lenT, blt_lenL, flat, lLINE0, lLINE1, lLINE2, lLINE3, lLINE4, lLINE5, lLINE6, lLINE7, lLINE8, alloc, sub_fl, sub_tp, seqOf_tup, seqOf_fl, ↓ev_int, ↓ev_bl, ↓ev_str, ↓ev_non, List.getElem?_cons_zero, List.getElem?_cons_succ, List.set_cons_zero, List.set_cons_succ, List.length_cons, List.length_nil, List.map_cons, List.map_nil, List.replicate, List.nil_append, List.cons_append, List.append_nil, if_true, if_false, decide_true, decide_false, Bool.not_true, Bool.not_false, Bool.false_eq_true, Nat.reduceLT, Nat.reduceAdd, Nat.reduceSub, Nat.reduceLeDiff, Nat.zero_add, Nat.add_zero, Nat.sub_zero, Nat.lt_add_one, Nat.zero_lt_succ, and_true, and_self, true_and, ite_true, ite_false]
    by_cases ht : 0 < total
    · obtain ⟨w, v, rest', a', b', c', e, hf', hv1, hv2, hv3, hr'⟩ := fill_turn hP n ho hr cell ws hw S acc hf hl total rest ht h1 a b c
      obtain ⟨fill, rest2, a2, b2, c2, e2, hf2, hl2, hs2⟩ := ih (acc ++ [(w, v)]) (total - v) rest' a' b' c' (by omega) (by omega) hr' hf' (by
        rw [List.length_append, List.length_cons, List.length_nil]
        rcases Nat.lt_or_ge acc.length 50 with h | h
        · omega
        · have := hz (by omega); omega) (fun h => by
        rw [List.length_append, List.length_cons, List.length_nil] at h
        have := hv3 (by omega); omega)
      refine ⟨fill, rest2, a2, b2, c2, ?_, hf2, hl2, ?_⟩
      · rw [whileW_step (q := (sgF (T5 rooms tb th ap pig) cell ws (total - v) S.length rest' a' b' c', S ++ [.lst ((acc ++ [(w, v)]).map rowS)])) ?_]
        · exact e2
        · unfold turnW
          dsimp only
          rw [tst total, decide_eq_true ht]
          dsimp only
          rw [e]
      · rw [hs2]; simp; omega
    · have e0 : total = 0 := by omega
      subst e0
      refine ⟨acc, rest, a, b, c, ?_, hf, hl, by simp⟩
      rw [whileW_end (r := .nx (sgF (T5 rooms tb th ap pig) cell ws 0 S.length rest a b c) (S ++ [.lst (acc.map rowS)])) ?_]
      unfold turnW
      dsimp only
      rw [tst 0, decide_eq_false (by omega)]
theorem sum_pos {l : List Int} (h : ∀ r ∈ l, 0 ≤ r) : 0 ≤ l.sum := by
  induction l with
  | nil => simp
  | cons x l ih =>
    have h1 := ih fun r hr => h r (by simp [hr])
    have h2 := h x (by simp)
    simp; omega
theorem call_fill (hP : FHas P) (n : Nat) {rooms : List Int} {tb th ap : List D} {pig : D} (ho : PipeOk rooms tb th ap pig) (hr : ∀ r ∈ rooms, 0 ≤ r) (cell : Int) (ws : List Str) (hw : ws.length = 6) (S : Store) :
    ∃ fill : List (Str × Int), call P (n + 2) "_law_fill" [T5 rooms tb th ap pig, .int cell, .fl (ws.map .str)] S = .ok (.ref S.length) (S ++ [.lst (fill.map rowS)]) ∧ FillOk ap ws fill ∧ fill.length ≤ 50 ∧ (fill.map (·.2)).sum = rooms.sum := by
  rw [call_fin hP.fill (n + 1) [T5 rooms tb th ap pig, .int cell, .fl (ws.map .str)] S rfl (by decide)]
  have d2 : divOk 2 := ⟨by decide, by decide⟩
  have h0 := sum_pos hr
  have hab : 0 ≤ (if cell < 0 then -cell else cell) / 2 := Int.ediv_nonneg (by split <;> omega) (by decide)
  obtain ⟨fill, rest', a', b', c', e, hf, hl, hs⟩ := fill_while hP n ho hr cell ws hw S (rooms.sum.toNat + 1) [] rooms.sum ((if cell < 0 then -cell else cell) / 2) none none none (by omega) h0 hab ⟨trivial, fun p hp => by cases hp⟩ (by simp) (by simp)
  refine ⟨fill, ?_, hf, hl, by simpa using hs⟩
  show fin (exs (envOf P (n + 1)) F_law_fill.body [some (T5 rooms tb th ap pig), some (.int cell), some (.fl (ws.map .str)), none, none, none, none, none, none] S) = _
  refine (congrArg fin (exs_nx (σ' := [some (T5 rooms tb th ap pig), some (.int cell), some (.fl (ws.map .str)), some (.int rooms.sum), none, none, none, none, none]) (S' := S) (by simp only [ev, evs, evo, evc, asg, asgs, exs_cons, exs_nil, ex, bind_ok, bind_exc, st_ok, st_exc, bind_nx, bind_ret, bind_brk, bind_cnt, bind_xc, fin_ret, fin_nx, fin_exc, asE_some, asB_ok, bop_add, bop_sub, bop_mul, bop_fdiv, bop_mod, cop_lt, cop_le, cop_gt, cop_ge, cop_eq, cop_ne, cop_eqb, cop_neb, blt_abs, blt_lenT, blt_lenL, flat, lLINE0, lLINE1, lLINE2, lLINE3, lLINE4, lLINE5, lLINE6, lLINE7, lLINE8, alloc, sub_fl, sub_tp, seqOf_tup, seqOf_fl, ↓ev_int, ↓ev_bl, ↓ev_str, ↓ev_non, List.getElem?_cons_zero, List.getElem?_cons_succ, List.set_cons_zero, List.set_cons_succ, List.length_cons, List.length_nil, List.map_cons, List.map_nil, List.replicate, List.nil_append, List.cons_append, List.append_nil, if_true, if_false, decide_true, decide_false, Bool.not_true, Bool.not_false, Bool.false_eq_true, Nat.reduceLT, Nat.reduceAdd, Nat.reduceSub, Nat.reduceLeDiff, Nat.zero_add, Nat.add_zero, Nat.sub_zero, Nat.lt_add_one, Nat.zero_lt_succ, and_true, and_self, true_and, ite_true, ite_false, t5_0, blt_sum]))).trans ?_
  refine (congrArg fin (exs_nx (σ' := [some (T5 rooms tb th ap pig), some (.int cell), some (.fl (ws.map .str)), some (.int rooms.sum), some (.ref S.length), none, none, none, none]) (S' := S ++ [.lst []]) (by simp only [ev, evs, evo, evc, asg, asgs, exs_cons, exs_nil, ex, bind_ok, bind_exc, st_ok, st_exc, bind_nx, bind_ret, bind_brk, bind_cnt, bind_xc, fin_ret, fin_nx, fin_exc, asE_some, asB_ok, bop_add, bop_sub, bop_mul, bop_fdiv, bop_mod, cop_lt, cop_le, cop_gt, cop_ge, cop_eq, cop_ne, cop_eqb, cop_neb, blt_abs, blt_lenT, blt_lenL, flat, lLINE0, lLINE1, lLINE2, lLINE3, lLINE4, lLINE5, lLINE6, lLINE7, lLINE8, alloc, sub_fl, sub_tp, seqOf_tup, seqOf_fl, ↓ev_int, ↓ev_bl, ↓ev_str, ↓ev_non, List.getElem?_cons_zero, List.getElem?_cons_succ, List.set_cons_zero, List.set_cons_succ, List.length_cons, List.length_nil, List.map_cons, List.map_nil, List.replicate, List.nil_append, List.cons_append, List.append_nil, if_true, if_false, decide_true, decide_false, Bool.not_true, Bool.not_false, Bool.false_eq_true, Nat.reduceLT, Nat.reduceAdd, Nat.reduceSub, Nat.reduceLeDiff, Nat.zero_add, Nat.add_zero, Nat.sub_zero, Nat.lt_add_one, Nat.zero_lt_succ, and_true, and_self, true_and, ite_true, ite_false]))).trans ?_
  refine (congrArg fin (exs_nx (σ' := sgF (T5 rooms tb th ap pig) cell ws rooms.sum S.length ((if cell < 0 then -cell else cell) / 2) none none none) (S' := S ++ [.lst []]) (by unfold sgF; simp only [ev, evs, evo, evc, asg, asgs, exs_cons, exs_nil, ex, bind_ok, bind_exc, st_ok, st_exc, bind_nx, bind_ret, bind_brk, bind_cnt, bind_xc, fin_ret, fin_nx, fin_exc, asE_some, asB_ok, bop_add, bop_sub, bop_mul, bop_fdiv, bop_mod, cop_lt, cop_le, cop_gt, cop_ge, cop_eq, cop_ne, cop_eqb, cop_neb, blt_abs, blt_lenT, blt_lenL, flat, lLINE0, lLINE1, lLINE2, lLINE3, lLINE4, lLINE5, lLINE6, lLINE7, lLINE8, alloc, sub_fl, sub_tp, seqOf_tup, seqOf_fl, ↓ev_int, ↓ev_bl, ↓ev_str, ↓ev_non, List.getElem?_cons_zero, List.getElem?_cons_succ, List.set_cons_zero, List.set_cons_succ, List.length_cons, List.length_nil, List.map_cons, List.map_nil, List.replicate, List.nil_append, List.cons_append, List.append_nil, if_true, if_false, decide_true, decide_false, Bool.not_true, Bool.not_false, Bool.false_eq_true, Nat.reduceLT, Nat.reduceAdd, Nat.reduceSub, Nat.reduceLeDiff, Nat.zero_add, Nat.add_zero, Nat.sub_zero, Nat.lt_add_one, Nat.zero_lt_succ, and_true, and_self, true_and, ite_true, ite_false, d2]))).trans ?_
  refine (congrArg fin (exs_nx (σ' := sgF (T5 rooms tb th ap pig) cell ws 0 S.length rest' a' b' c') (S' := S ++ [.lst (fill.map rowS)]) (by rw [ex]; exact e))).trans ?_
  unfold sgF
  simp only [ev, evs, evo, evc, asg, asgs, exs_cons, exs_nil, ex, bind_ok, bind_exc, st_ok, st_exc, bind_nx, bind_ret, bind_brk, bind_cnt, bind_xc, fin_ret, fin_nx, fin_exc, asE_some, asB_ok, bop_add, bop_sub, bop_mul, bop_fdiv, bop_mod, cop_lt, cop_le, cop_gt, cop_ge, cop_eq, cop_ne, cop_eqb, cop_neb, blt_abs, blt_lenT, blt_lenL, flat, lLINE0, lLINE1, lLINE2, lLINE3, lLINE4, lLINE5, lLINE6, lLINE7, lLINE8, alloc, sub_fl, sub_tp, seqOf_tup, seqOf_fl, ↓ev_int, ↓ev_bl, ↓ev_str, ↓ev_non, List.getElem?_cons_zero, List.getElem?_cons_succ, List.set_cons_zero, List.set_cons_succ, List.length_cons, List.length_nil, List.map_cons, List.map_nil, List.replicate, List.nil_append, List.cons_append, List.append_nil, if_true, if_false, decide_true, decide_false, Bool.not_true, Bool.not_false, Bool.false_eq_true, Nat.reduceLT, Nat.reduceAdd, Nat.reduceSub, Nat.reduceLeDiff, Nat.zero_add, Nat.add_zero, Nat.sub_zero, Nat.lt_add_one, Nat.zero_lt_succ, and_true, and_self, true_and, ite_true, ite_false]
/-! ### how a law begins -/
structure Begun (ws : List Str) (rooms : List Int) (ps : List (Int × Int)) (th ap : List D) (pig : D) (fill : List (Str × Int)) : Prop where
  w6 : ws.length = 6
  ok : PipeOk rooms (ps.map rowD) th ap pig
  r1 : 1 ≤ rooms.length ∧ rooms.length ≤ 4
  rp : ∀ r ∈ rooms, 1 ≤ r ∧ r ≤ 400000
  rows : RowsOk 5000000 ps
  thk : ∀ t ∈ th, ThickD t
  pg : ∃ p q : Int, pig = .tup [.int p, .int q] ∧ (0 ≤ p ∧ p < 5) ∧ (4 ≤ q ∧ q < 7)
  fl : FillOk ap ws fill
  fl50 : fill.length ≤ 50
  sum : (fill.map (·.2)).sum = rooms.sum
theorem frz_five {ps : List (Int × Int)} {th ap : List D} {rooms : List Int} {pig : D} (h1 : norefs th = true) (h2 : norefs ap = true) (h3 : noref pig = true) :
    frz 6 [.lst (ps.map rowD), .lst th, .lst ap, .lst [.fl (rooms.map .int), .ref 0, .ref 1, .ref 2, pig]] (.ref 3) = some (T5 rooms (ps.map rowD) th ap pig) := by
  have c0 := frz_cell (k := 4) (i := 0) (S := [.lst (ps.map rowD), .lst th, .lst ap, .lst [.fl (rooms.map .int), .ref 0, .ref 1, .ref 2, pig]]) (xs := ps.map rowD) rfl (norefs_rows ps)
  have c1 := frz_cell (k := 4) (i := 1) (S := [.lst (ps.map rowD), .lst th, .lst ap, .lst [.fl (rooms.map .int), .ref 0, .ref 1, .ref 2, pig]]) (xs := th) rfl h1
  have c2 := frz_cell (k := 4) (i := 2) (S := [.lst (ps.map rowD), .lst th, .lst ap, .lst [.fl (rooms.map .int), .ref 0, .ref 1, .ref 2, pig]]) (xs := ap) rfl h2
  have c3 : frz 5 [.lst (ps.map rowD), .lst th, .lst ap, .lst [.fl (rooms.map .int), .ref 0, .ref 1, .ref 2, pig]] (.fl (rooms.map .int)) = some (.fl (rooms.map .int)) := frz_self (norefs_ints rooms)
  have c4 : frz 5 [.lst (ps.map rowD), .lst th, .lst ap, .lst [.fl (rooms.map .int), .ref 0, .ref 1, .ref 2, pig]] pig = some pig := frz_self h3
  rw [frz]
  rw [if_neg (by simp [noref])]
  simp only [rb, List.getElem?_cons_succ, List.getElem?_cons_zero, List.mapM_cons, List.mapM_nil, c0, c1, c2, c3, c4, Option.bind_eq_bind, Option.bind_some, Option.pure_def, Option.map_some]
  rfl
theorem thick_nr {th : List D} (h : ∀ t ∈ th, ThickD t) : norefs th = true := norefs_of fun t ht => by
  obtain ⟨a, b, m, rfl, _⟩ := h t ht; rfl
theorem call_begun (hP : FHas P) (n : Nat) (ns : List Int) (hl : ns.length ≤ 63) (zs : List Int) (hz : ∀ z ∈ zs, 1 ≤ z ∧ z ≤ 400000) (hz0 : 0 < zs.length) (hz1 : zs.length ≤ 100) (S : Store) :
    ∃ ws rooms ps th ap pig fill, Begun ws rooms ps th ap pig fill ∧ (∀ r ∈ rooms, ∃ z ∈ zs, r ≤ z) ∧ call P (n + 4) "_law_begun" [.scr ns, .fl (zs.map .int)] S = .ok (.fl [.fl (ws.map .str), T5 rooms (ps.map rowD) th ap pig, .fl (fill.map rowS)]) S := by
  obtain ⟨first, hfi⟩ := frz_at hP.at_ (n + 2) ns hl 0 (by decide)
  obtain ⟨second, hse⟩ := frz_at hP.at_ (n + 2) ns hl 1 (by decide)
  obtain ⟨ws, w6, hws⟩ := call_wares hP.toHas (n + 1) first []
  have fw : ∀ S, frzCall (envOf P (n + 3)) "_law_wares" [.int first] S = .ok (.fl (ws.map .str)) S := fun S => frzCall_of (S' := []) rfl hws (by
    show norefs _ = true
    exact norefs_of fun x hx => by obtain ⟨y, _, rfl⟩ := List.mem_map.mp hx; rfl)
  have nws : norefs (ws.map D.str) = true := norefs_of fun x hx => by obtain ⟨y, _, rfl⟩ := List.mem_map.mp hx; rfl
  obtain ⟨v15, n15, a15, b15⟩ := frz_mix hP.mix (n + 2) first 15 (by decide) (by decide)
  have zl : (0 : Int) < zs.length := by omega
  have q15 := mod_in (v := v15) zl
  obtain ⟨md, hm1, hm2⟩ := at_ok (xs := zs.map D.int) (i := v15 % zs.length) q15.1 (by rw [List.length_map]; exact q15.2)
  obtain ⟨most, hm3, rfl⟩ := List.mem_map.mp hm2
  have hmm := hz most hm3
  obtain ⟨rooms, ps, th, ap, p, q, c5, r1, r2, r3, r4, r5, r6, r7, r8, r9, r10⟩ := call_five hP.toHas (n + 1) first most ws w6 hmm.1 (Int.le_trans hmm.2 (by decide))
  have nth := thick_nr r5
  have oap : ApOk ap := ⟨r6⟩
  have f5 : ∀ S, frzCall (envOf P (n + 3)) "_law_five" [.int first, .fl (ws.map .str), .int most] S = .ok (T5 rooms (ps.map rowD) th ap (.tup [.int p, .int q])) S := fun S => by
    unfold frzCall
    rw [frzs_self (by simp only [norefs, noref, nws]; rfl)]
    dsimp only
    rw [show (envOf P (n + 3)).call "_law_five" = call P (n + 3) "_law_five" from rfl, c5]
    dsimp only
    rw [frz_five nth oap.noref rfl]
    simp only [norefs, noref, nws, Bool.and_self, Bool.true_or, if_true]
  have ho : PipeOk rooms (ps.map rowD) th ap (.tup [.int p, .int q]) := ⟨by omega, by rw [List.length_map]; omega, by omega, by omega, oap, norefs_rows ps, nth, rfl⟩
  obtain ⟨fill, cf, hf1, hf2, hf3⟩ := call_fill hP (n + 1) ho (fun r hr => by have := (r2 r hr).1; omega) second ws w6 []
  have ff : ∀ S, frzCall (envOf P (n + 3)) "_law_fill" [T5 rooms (ps.map rowD) th ap (.tup [.int p, .int q]), .int second, .fl (ws.map .str)] S = .ok (.fl (fill.map rowS)) S := fun S =>
    frz_boxed cf (by simp only [norefs, T5.nr ho, noref, nws]; rfl) (norefs_rowS _)
  refine ⟨ws, rooms, ps, th, ap, .tup [.int p, .int q], fill, ⟨w6, ho, r1, fun r hr => ⟨(r2 r hr).1, by have := (r2 r hr).2; omega⟩, r3, r5, ⟨p, q, rfl, r9, r10⟩, hf1, hf2, hf3⟩, fun r hr => ⟨most, hm3, (r2 r hr).2⟩, ?_⟩
  rw [call_fin hP.begun (n + 3) [.scr ns, .fl (zs.map .int)] S rfl (by decide)]
  show fin (exs _ (.cons _ (.cons _ (.cons _ (.cons _ .nil)))) [some (.scr ns), some (.fl (zs.map .int)), none, none, none] S) = _
  simp only [ev, evs, evo, evc, asg, asgs, exs_cons, exs_nil, ex, bind_ok, bind_exc, st_ok, st_exc, bind_nx, bind_ret, bind_brk, bind_cnt, bind_xc, fin_ret, fin_nx, fin_exc, asE_some, asB_ok, bop_add, bop_sub, bop_mul, bop_fdiv, bop_mod, cop_lt, cop_le, cop_gt, cop_ge, cop_eq, cop_ne, cop_eqb, cop_neb, blt_abs, blt_lenT, blt_lenL, flat, lLINE0, lLINE1, lLINE2, lLINE3, lLINE4, lLINE5, lLINE6, lLINE7, lLINE8, alloc, sub_fl, sub_tp, seqOf_tup, seqOf_fl, ↓ev_int, ↓ev_bl, ↓ev_str, ↓ev_non, List.getElem?_cons_zero, List.getElem?_cons_succ, List.set_cons_zero, List.set_cons_succ, List.length_cons, List.length_nil, List.map_cons, List.map_nil, List.replicate, List.nil_append, List.cons_append, List.append_nil, if_true, if_false, decide_true, decide_false, Bool.not_true, Bool.not_false, Bool.false_eq_true, Nat.reduceLT, Nat.reduceAdd, Nat.reduceSub, Nat.reduceLeDiff, Nat.zero_add, Nat.add_zero, Nat.sub_zero, Nat.lt_add_one, Nat.zero_lt_succ, and_true, and_self, true_and, ite_true, ite_false, hfi, fw, n15, List.length_map, zl, hm1, f5, hse, ff]
theorem call_lpipe (hP : FHas P) (n : Nat) (S : Store) {rooms : List Int} {tb th ap : List D} {pig : D} (ho : PipeOk rooms tb th ap pig) : call P (n + 2) "_law_pipe" [T5 rooms tb th ap pig] S = .ok (.ref S.length) (S ++ pipeC S.length rooms tb th ap pig) := by
  rw [call_fin hP.pipe (n + 1) [T5 rooms tb th ap pig] S rfl (by decide)]
  have l1 := ho.l1
  have l2 := ho.l2
  have l3 := ho.l3
  have l4 := ho.l4
  have b1 : ∀ (xs : List D), xs.length ≤ 1000 → ∀ S, blt (.list false) [.fl xs] S = .ok (.fl xs) S := fun xs h S => blt_listF rfl (by rw [LINE_num]; omega)
  have mk := raw_pipe_ hP n S (.fl (rooms.map .int)) (.fl tb) (.fl th) (.fl ap) pig (rooms.map .int) tb th ap (fun _ => rfl) (fun _ => rfl) (fun _ => rfl) (fun _ => rfl) (by rw [List.length_map, LINE_num]; omega) (by rw [LINE_num]; omega) (by rw [LINE_num]; omega) (by rw [LINE_num]; omega)
  show fin (exs _ (.cons (.ret _) .nil) [some (T5 rooms tb th ap pig)] S) = _
  simp only [ev, evs, evo, evc, asg, asgs, exs_cons, exs_nil, ex, bind_ok, bind_exc, st_ok, st_exc, bind_nx, bind_ret, bind_brk, bind_cnt, bind_xc, fin_ret, fin_nx, fin_exc, asE_some, asB_ok, bop_add, bop_sub, bop_mul, bop_fdiv, bop_mod, cop_lt, cop_le, cop_gt, cop_ge, cop_eq, cop_ne, cop_eqb, cop_neb, blt_abs, blt_lenT, blt_lenL, flat, lLINE0, lLINE1, lLINE2, lLINE3, lLINE4, lLINE5, lLINE6, lLINE7, lLINE8, alloc, sub_fl, sub_tp, seqOf_tup, seqOf_fl, ↓ev_int, ↓ev_bl, ↓ev_str, ↓ev_non, List.getElem?_cons_zero, List.getElem?_cons_succ, List.set_cons_zero, List.set_cons_succ, List.length_cons, List.length_nil, List.map_cons, List.map_nil, List.replicate, List.nil_append, List.cons_append, List.append_nil, if_true, if_false, decide_true, decide_false, Bool.not_true, Bool.not_false, Bool.false_eq_true, Nat.reduceLT, Nat.reduceAdd, Nat.reduceSub, Nat.reduceLeDiff, Nat.zero_add, Nat.add_zero, Nat.sub_zero, Nat.lt_add_one, Nat.zero_lt_succ, and_true, and_self, true_and, ite_true, ite_false, t5_0, t5_1, t5_2, t5_3, t5_4, b1 (rooms.map .int) (by rw [List.length_map]; omega), b1 tb (by omega), b1 th l3, b1 ap l4, mk]
  rfl
end E1.Fi

set_option maxHeartbeats 2000000
namespace E1.Fi
open PySem (Str)
open E1 E1.Com
variable {P : Prog}
/-! ### frozen contents -/
theorem frzF_self {m k : Nat} {S : Store} {d : D} (h : noref d = true) : frzF m k S d = some d := by
  cases k <;> (unfold frzF; rw [if_pos h])
theorem mapMF_self {m k : Nat} {S : Store} : ∀ {xs : List D}, norefs xs = true → xs.mapM (frzF m k S) = some xs
  | [], _ => rfl
  | x :: xs, h => by
    simp only [norefs, Bool.and_eq_true] at h
    simp only [List.mapM_cons, frzF_self h.1, mapMF_self h.2, Option.bind_eq_bind, Option.bind_some, Option.pure_def]
theorem frzF_cell {m k i : Nat} {S : Store} {xs : List D} (h : S[i]? = some (.lst xs)) (hm : m ≤ i) (hn : norefs xs = true) : frzF m (k + 1) S (.ref i) = some (.fl xs) := by
  rw [frzF]
  rw [if_neg (by simp [noref])]
  simp only [if_pos hm, h, mapMF_self hn, Option.map_some]
def CT (rooms : List Int) (tb th ap : List D) (pig : D) (rows : List (Str × Int)) : D := .obj "Content" cN [PT4 (.fl (rooms.map .int)) (.fl tb) (.fl th) ap pig, .fl (rows.map rowS), .fl ((innerP rows).map .int), .fl []]
theorem CT.nr {rooms : List Int} {tb th ap : List D} {pig : D} (h : PipeOk rooms tb th ap pig) (rows : List (Str × Int)) : noref (CT rooms tb th ap pig rows) = true := by
  show (noref (PT4 (.fl (rooms.map .int)) (.fl tb) (.fl th) ap pig) && (norefs _ && (norefs _ && (true && true)))) = true
  rw [h.nr, norefs_rowS, norefs_ints]; rfl
theorem get_at {S0 T : Store} (j : Nat) : (S0 ++ T)[S0.length + j]? = T[j]? := by
  rw [List.getElem?_append_right (by omega)]
  congr 1
  omega
theorem freeze_cont {S0 : Store} (h0 : S0.all (cellB S0.length) = true) {rooms : List Int} {tb th ap : List D} {pig : D} (ho : PipeOk rooms tb th ap pig) (rows : List (Str × Int)) :
    freeze S0.length (.ref S0.length) (S0 ++ contC S0.length rooms tb th ap pig rows) = .ok (CT rooms tb th ap pig rows) S0 := by
  unfold freeze
  rw [if_pos ⟨by simp, by rw [List.take_left]; exact h0⟩]
  have g : ∀ j, (S0 ++ contC S0.length rooms tb th ap pig rows)[S0.length + j]? = (contC S0.length rooms tb th ap pig rows)[j]? := fun j => get_at j
  have g0 : (S0 ++ contC S0.length rooms tb th ap pig rows)[S0.length]? = some (.ins "Content" cN [.ref (S0.length + 1), .ref (S0.length + 6), .ref (S0.length + 7), .fl []]) := g 0
  have g1 : (S0 ++ contC S0.length rooms tb th ap pig rows)[S0.length + 1]? = some (.ins "Pipe" pN [.ref (S0.length + 2), .ref (S0.length + 3), .ref (S0.length + 4), .ref (S0.length + 5), pig]) := g 1
  have c2 := frzF_cell (m := S0.length) (k := 3) (g 2) (by omega) (norefs_ints rooms)
  have c3 := frzF_cell (m := S0.length) (k := 3) (g 3) (by omega) ho.n2
  have c4 := frzF_cell (m := S0.length) (k := 3) (g 4) (by omega) ho.n3
  have c5 := frzF_cell (m := S0.length) (k := 3) (g 5) (by omega) ho.ap.noref
  have c6 := frzF_cell (m := S0.length) (k := 4) (g 6) (by omega) (norefs_rowS rows)
  have c7 := frzF_cell (m := S0.length) (k := 4) (g 7) (by omega) (norefs_ints (innerP rows))
  have cp : frzF S0.length 4 (S0 ++ contC S0.length rooms tb th ap pig rows) pig = some pig := frzF_self ho.n4
  have ce : frzF S0.length 5 (S0 ++ contC S0.length rooms tb th ap pig rows) (.fl []) = some (.fl []) := frzF_self rfl
  have c1 : frzF S0.length 5 (S0 ++ contC S0.length rooms tb th ap pig rows) (.ref (S0.length + 1)) = some (PT4 (.fl (rooms.map .int)) (.fl tb) (.fl th) ap pig) := by
    rw [frzF]
    rw [if_neg (by simp [noref])]
    simp only [if_pos (show S0.length ≤ S0.length + 1 by omega), g1, List.mapM_cons, List.mapM_nil, c2, c3, c4, c5, cp, Option.bind_eq_bind, Option.bind_some, Option.pure_def, Option.map_some]
    rfl
  have c0 : frzF S0.length 6 (S0 ++ contC S0.length rooms tb th ap pig rows) (.ref S0.length) = some (CT rooms tb th ap pig rows) := by
    rw [frzF]
    rw [if_neg (by simp [noref])]
    simp only [if_pos (Nat.le_refl S0.length), g0, List.mapM_cons, List.mapM_nil, c1, c6, c7, ce, Option.bind_eq_bind, Option.bind_some, Option.pure_def, Option.map_some]
    rfl
  rw [c0, List.take_left]
theorem ev_content (hP : FHas P) (n : Nat) {es : Exs} {σ : Slots} {S0 : Store} (h0 : S0.all (cellB S0.length) = true) {pv fv : D} (he : evs (envOf P (n + 3)) es σ S0 = .ok [pv, fv] S0) {rooms : List Int} {tb th ap : List D} {pig : D} {ps : List (Str × Int)} {ck : Option (Nat × List D)} (hp : PipeV S0 pv rooms tb th ap pig) (ho : PipeOk rooms tb th ap pig)
    (hfv : ∀ T, srcOf (S0 ++ T) fv = some (ps.map rowS, ck)) (hl : ps.length < 1000) :
    if (ps.map (·.2)).sum = rooms.sum then
      match firstA ap (joinR ps) with
      | some p => ∃ S', ev (envOf P (n + 3)) (.frz (.make false "Content" es)) σ S0 = .exc ⟨"Touch", ["pair"], [pairS p.1 p.2]⟩ S'
      | none => ev (envOf P (n + 3)) (.frz (.make false "Content" es)) σ S0 = .ok (CT rooms tb th ap pig (joinR ps)) S0
    else ∃ S', ev (envOf P (n + 3)) (.frz (.make false "Content" es)) σ S0 = .exc ⟨"BadFill", [], []⟩ S' := by
  have hc := call_cinit hP n S0 pv fv rooms tb th ap pig ps ck hp ho hfv hl
  unfold ctent at hc
  have red : ∀ w, call P (n + 3) "Content.__init__" [.ref S0.length, pv, fv] (S0 ++ [.ins "Content" [] []]) = w → ev (envOf P (n + 3)) (.frz (.make false "Content" es)) σ S0 =
      ((w.bind fun d S' => match d with | .non => R.ok (.ref S0.length) S' | _ => .no).bind fun d S' => freeze S0.length d S') := fun w hw => by
    rw [ev, ev, he, bind_ok, if_neg (by simp)]
    unfold rawMake
    show (R.bind (R.bind (call P (n + 3) "Content.__init__" _ _) _) _) = _
    rw [hw]
    all_goals rfl
  by_cases hs : (ps.map (·.2)).sum = rooms.sum
  · rw [if_pos hs] at hc ⊢
    cases hfa : firstA ap (joinR ps) with
    | some p =>
      rw [hfa] at hc
      obtain ⟨S', h⟩ := hc
      exact ⟨S', by rw [red _ h]; rfl⟩
    | none =>
      rw [hfa] at hc
      dsimp only at hc ⊢
      rw [red _ hc, bind_ok]
      dsimp only
      rw [bind_ok]
      exact freeze_cont h0 ho _
  · rw [if_neg hs] at hc ⊢
    obtain ⟨S', h⟩ := hc
    exact ⟨S', by rw [red _ h]; rfl⟩
/-! ### what a content tells -/
theorem compL_mapG {asg : D → Slots → Store → R Slots} {tst : Slots → Store → R Bool} {elt : Slots → Store → R D} {own : List Nat} {ck : Option (Nat × List D)} {σ : Slots} {S : Store} {α : Type} (f g : α → D) (hs : stands S ck) (ht : ∀ σ, tst σ S = .ok true S) : ∀ {zs : List α} {acc : List D}, zs.length + acc.length ≤ LINE →
    (∀ z ∈ zs, ∃ σ2, asg (f z) (wipe σ own) S = .ok σ2 S ∧ elt σ2 S = .ok (g z) S) → compL asg tst elt own ck σ (zs.map f) acc S = .ok (acc ++ zs.map g) S
  | [], acc, _, _ => by rw [List.map_nil, compL_nil hs, List.map_nil, List.append_nil]
  | z :: zs, acc, hl, h => by
    obtain ⟨σ2, h1, h2⟩ := h z (by simp)
    simp only [List.length_cons] at hl
    have ih := compL_mapG (elt := elt) (tst := tst) f g hs ht (zs := zs) (acc := acc ++ [g z]) (by rw [List.length_append, List.length_cons, List.length_nil]; omega) fun y hy => h y (List.mem_cons_of_mem _ hy)
    rw [List.map_cons]
    unfold compL
    rw [if_pos ⟨hs, by omega⟩, h1]
    simp only [ht, h2]
    rw [ih, List.append_assoc]
    rfl
theorem ev_compG {C : E1.Env} {box : Bool} {elt : Ex} {tg : Tg} {it : It} {own : List Nat} {σ : Slots} {S S1 : Store} {α : Type} (f g : α → D) {zs : List α} {ck : Option (Nat × List D)} (hi : evi C it σ S = .ok (zs.map f, ck) S1) (hs : stands S1 ck) (hl : zs.length ≤ LINE) (h : ∀ z ∈ zs, ∃ σ2, asg C tg (f z) (wipe σ own) S1 = .ok σ2 S1 ∧ ev C elt σ2 S1 = .ok (g z) S1) :
    ev C (.comp box elt tg it .no own) σ S = alloc box (zs.map g) S1 := by
  rw [ev, hi, bind_ok]
  dsimp only
  rw [compL_mapG f g hs (fun σ => by rw [evc]) (by simpa using hl) h, bind_ok, List.nil_append]
theorem alloc_ref {xs : List D} {S : Store} (h : xs.length ≤ LINE) : alloc true xs S = .ok (.ref S.length) (S ++ [.lst xs]) := by unfold alloc; rw [if_pos h, if_pos rfl]
theorem zipD_same : ∀ xs : List D, zipD xs xs = xs.map fun x => .tup [x, x]
  | [] => rfl
  | x :: xs => by rw [zipD, zipD_same xs]; rfl
def prD (p : Int) : D := .tup [.int p, .int p]
theorem norefs_pr : ∀ ps : List Int, norefs (ps.map prD) = true
  | [] => rfl
  | p :: ps => by simp only [List.map_cons, norefs, norefs_pr ps]; rfl
section
variable (rooms : List Int) (tb th ap : List D) (pig : D) (rows : List (Str × Int))
theorem ct_pipe (S : Store) : attF S (CT rooms tb th ap pig rows) "pipe" = some (PT4 (.fl (rooms.map .int)) (.fl tb) (.fl th) ap pig) := by rfl
theorem ct_rows (S : Store) : attF S (CT rooms tb th ap pig rows) "row_kept" = some (.fl (rows.map rowS)) := by rfl
theorem ct_sinces (S : Store) : attF S (CT rooms tb th ap pig rows) "sinces_kept" = some (.fl ((innerP rows).map .int)) := by rfl
theorem ct_pigs (S : Store) : attF S (CT rooms tb th ap pig rows) "pigs_kept" = some (.fl []) := by rfl
theorem pt_rooms (S : Store) : attF S (PT4 (.fl (rooms.map .int)) (.fl tb) (.fl th) ap pig) "rooms" = some (.fl (rooms.map .int)) := by rfl
theorem pt_table (S : Store) : attF S (PT4 (.fl (rooms.map .int)) (.fl tb) (.fl th) ap pig) "table" = some (.fl tb) := by rfl
theorem pt_thick (S : Store) : attF S (PT4 (.fl (rooms.map .int)) (.fl tb) (.fl th) ap pig) "thick" = some (.fl th) := by rfl
theorem pt_apart (S : Store) : attF S (PT4 (.fl (rooms.map .int)) (.fl tb) (.fl th) ap pig) "apart" = some (.fl ap) := by rfl
theorem pt_pig (S : Store) : attF S (PT4 (.fl (rooms.map .int)) (.fl tb) (.fl th) ap pig) "pig" = some pig := by rfl
theorem call_str (hP : FHas P) (n : Nat) (hl : rows.length < 1000) (S : Store) : call P (n + 1) "stretches" [CT rooms tb th ap pig rows] S = .ok (.ref S.length) (S ++ [.lst (rows.map rowS)]) := by
  rw [call_fin hP.str n [CT rooms tb th ap pig rows] S rfl (by decide)]
  have b := blt_listT (x := .fl (rows.map rowS)) (xs := rows.map rowS) (S := S) rfl (by rw [List.length_map, LINE_num]; omega)
  show fin (exs _ (.cons (.ret _) .nil) [some (CT rooms tb th ap pig rows)] S) = _
  simp only [ev, evs, evo, evc, asg, asgs, exs_cons, exs_nil, ex, bind_ok, bind_exc, st_ok, st_exc, bind_nx, bind_ret, bind_brk, bind_cnt, bind_xc, fin_ret, fin_nx, fin_exc, asE_some, asB_ok, bop_add, bop_sub, bop_mul, bop_fdiv, bop_mod, cop_lt, cop_le, cop_gt, cop_ge, cop_eq, cop_ne, cop_eqb, cop_neb, blt_abs, blt_lenT, blt_lenL, flat, lLINE0, lLINE1, lLINE2, lLINE3, lLINE4, lLINE5, lLINE6, lLINE7, lLINE8, alloc, sub_fl, sub_tp, seqOf_tup, seqOf_fl, ↓ev_int, ↓ev_bl, ↓ev_str, ↓ev_non, List.getElem?_cons_zero, List.getElem?_cons_succ, List.set_cons_zero, List.set_cons_succ, List.length_cons, List.length_nil, List.map_cons, List.map_nil, List.replicate, List.nil_append, List.cons_append, List.append_nil, if_true, if_false, decide_true, decide_false, Bool.not_true, Bool.not_false, Bool.false_eq_true, Nat.reduceLT, Nat.reduceAdd, Nat.reduceSub, Nat.reduceLeDiff, Nat.zero_add, Nat.add_zero, Nat.sub_zero, Nat.lt_add_one, Nat.zero_lt_succ, and_true, and_self, true_and, ite_true, ite_false, ct_rows, b]
theorem call_pigs (hP : FHas P) (n : Nat) (S : Store) : call P (n + 1) "pigs" [CT rooms tb th ap pig rows] S = .ok (.ref S.length) (S ++ [.lst []]) := by
  rw [call_fin hP.pig n [CT rooms tb th ap pig rows] S rfl (by decide)]
  have b := blt_listT (x := .fl []) (xs := []) (S := S) rfl (by decide)
  show fin (exs _ (.cons (.ret _) .nil) [some (CT rooms tb th ap pig rows)] S) = _
  simp only [ev, evs, evo, evc, asg, asgs, exs_cons, exs_nil, ex, bind_ok, bind_exc, st_ok, st_exc, bind_nx, bind_ret, bind_brk, bind_cnt, bind_xc, fin_ret, fin_nx, fin_exc, asE_some, asB_ok, bop_add, bop_sub, bop_mul, bop_fdiv, bop_mod, cop_lt, cop_le, cop_gt, cop_ge, cop_eq, cop_ne, cop_eqb, cop_neb, blt_abs, blt_lenT, blt_lenL, flat, lLINE0, lLINE1, lLINE2, lLINE3, lLINE4, lLINE5, lLINE6, lLINE7, lLINE8, alloc, sub_fl, sub_tp, seqOf_tup, seqOf_fl, ↓ev_int, ↓ev_bl, ↓ev_str, ↓ev_non, List.getElem?_cons_zero, List.getElem?_cons_succ, List.set_cons_zero, List.set_cons_succ, List.length_cons, List.length_nil, List.map_cons, List.map_nil, List.replicate, List.nil_append, List.cons_append, List.append_nil, if_true, if_false, decide_true, decide_false, Bool.not_true, Bool.not_false, Bool.false_eq_true, Nat.reduceLT, Nat.reduceAdd, Nat.reduceSub, Nat.reduceLeDiff, Nat.zero_add, Nat.add_zero, Nat.sub_zero, Nat.lt_add_one, Nat.zero_lt_succ, and_true, and_self, true_and, ite_true, ite_false, ct_pigs, b]
theorem call_meet (hP : FHas P) (n : Nat) (hl : rows.length < 1000) (S : Store) : call P (n + 2) "meetings" [CT rooms tb th ap pig rows] S = .ok (.ref S.length) (S ++ [.lst ((innerP rows).map prD)]) := by
  rw [call_fin hP.meet (n + 1) [CT rooms tb th ap pig rows] S rfl (by decide)]
  have hl2 := innerA_len rows 0
  have fz := frz_inner hP.inner n rows hl
  have hi : evi (envOf P (n + 1)) (.zip (.call true "inner_places" (.cons (.att (.var 0) "row_kept") .nil)) (.att (.var 0) "sinces_kept")) [some (CT rooms tb th ap pig rows), none, none] S = .ok ((innerP rows).map prD, none) S := by
    have e1 : ev (envOf P (n + 1)) (.call true "inner_places" (.cons (.att (.var 0) "row_kept") .nil)) [some (CT rooms tb th ap pig rows), none, none] S = .ok (.fl ((innerP rows).map .int)) S := by simp only [ev, evs, evo, evc, asg, asgs, exs_cons, exs_nil, ex, bind_ok, bind_exc, st_ok, st_exc, bind_nx, bind_ret, bind_brk, bind_cnt, bind_xc, fin_ret, fin_nx, fin_exc, asE_some, asB_ok, bop_add, bop_sub, bop_mul, bop_fdiv, bop_mod, cop_lt, cop_le, cop_gt, cop_ge, cop_eq, cop_ne, cop_eqb, cop_neb, blt_abs, blt_lenT, blt_lenL, flat, lLINE0, lLINE1, lLINE2, lLINE3, lLINE4, lLINE5, lLINE6, lLINE7, lLINE8, alloc, sub_fl, sub_tp, seqOf_tup, seqOf_fl, ↓ev_int, ↓ev_bl, ↓ev_str, ↓ev_non, List.getElem?_cons_zero, List.getElem?_cons_succ, List.set_cons_zero, List.set_cons_succ, List.length_cons, List.length_nil, List.map_cons, List.map_nil, List.replicate, List.nil_append, List.cons_append, List.append_nil, if_true, if_false, decide_true, decide_false, Bool.not_true, Bool.not_false, Bool.false_eq_true, Nat.reduceLT, Nat.reduceAdd, Nat.reduceSub, Nat.reduceLeDiff, Nat.zero_add, Nat.add_zero, Nat.sub_zero, Nat.lt_add_one, Nat.zero_lt_succ, and_true, and_self, true_and, ite_true, ite_false, ct_rows, fz]
    have e2 : ev (envOf P (n + 1)) (.att (.var 0) "sinces_kept") [some (CT rooms tb th ap pig rows), none, none] S = .ok (.fl ((innerP rows).map .int)) S := by simp only [ev, evs, evo, evc, asg, asgs, exs_cons, exs_nil, ex, bind_ok, bind_exc, st_ok, st_exc, bind_nx, bind_ret, bind_brk, bind_cnt, bind_xc, fin_ret, fin_nx, fin_exc, asE_some, asB_ok, bop_add, bop_sub, bop_mul, bop_fdiv, bop_mod, cop_lt, cop_le, cop_gt, cop_ge, cop_eq, cop_ne, cop_eqb, cop_neb, blt_abs, blt_lenT, blt_lenL, flat, lLINE0, lLINE1, lLINE2, lLINE3, lLINE4, lLINE5, lLINE6, lLINE7, lLINE8, alloc, sub_fl, sub_tp, seqOf_tup, seqOf_fl, ↓ev_int, ↓ev_bl, ↓ev_str, ↓ev_non, List.getElem?_cons_zero, List.getElem?_cons_succ, List.set_cons_zero, List.set_cons_succ, List.length_cons, List.length_nil, List.map_cons, List.map_nil, List.replicate, List.nil_append, List.cons_append, List.append_nil, if_true, if_false, decide_true, decide_false, Bool.not_true, Bool.not_false, Bool.false_eq_true, Nat.reduceLT, Nat.reduceAdd, Nat.reduceSub, Nat.reduceLeDiff, Nat.zero_add, Nat.add_zero, Nat.sub_zero, Nat.lt_add_one, Nat.zero_lt_succ, and_true, and_self, true_and, ite_true, ite_false, ct_sinces]
    rw [evi, e1, bind_ok, e2, bind_ok]
    show asE S (some (zipD ((innerP rows).map D.int) ((innerP rows).map D.int), none)) = _
    rw [zipD_same, List.map_map]; rfl
  have ec := ev_compG (C := envOf P (n + 1)) (box := true) (elt := .tup (.cons (.var 1) (.cons (.var 2) .nil))) (tg := .tup (.cons (.name 1) (.cons (.name 2) .nil))) (own := [1, 2]) prD prD hi trivial (by rw [LINE_num]; unfold innerP; omega) (fun z hz => ⟨[some (CT rooms tb th ap pig rows), some (.int z), some (.int z)], by unfold prD; simp only [ev, evs, evo, evc, asg, asgs, exs_cons, exs_nil, ex, bind_ok, bind_exc, st_ok, st_exc, bind_nx, bind_ret, bind_brk, bind_cnt, bind_xc, fin_ret, fin_nx, fin_exc, asE_some, asB_ok, bop_add, bop_sub, bop_mul, bop_fdiv, bop_mod, cop_lt, cop_le, cop_gt, cop_ge, cop_eq, cop_ne, cop_eqb, cop_neb, blt_abs, blt_lenT, blt_lenL, flat, lLINE0, lLINE1, lLINE2, lLINE3, lLINE4, lLINE5, lLINE6, lLINE7, lLINE8, alloc, sub_fl, sub_tp, seqOf_tup, seqOf_fl, ↓ev_int, ↓ev_bl, ↓ev_str, ↓ev_non, List.getElem?_cons_zero, List.getElem?_cons_succ, List.set_cons_zero, List.set_cons_succ, List.length_cons, List.length_nil, List.map_cons, List.map_nil, List.replicate, List.nil_append, List.cons_append, List.append_nil, if_true, if_false, decide_true, decide_false, Bool.not_true, Bool.not_false, Bool.false_eq_true, Nat.reduceLT, Nat.reduceAdd, Nat.reduceSub, Nat.reduceLeDiff, Nat.zero_add, Nat.add_zero, Nat.sub_zero, Nat.lt_add_one, Nat.zero_lt_succ, and_true, and_self, true_and, ite_true, ite_false, wipe], by unfold prD; simp only [ev, evs, evo, evc, asg, asgs, exs_cons, exs_nil, ex, bind_ok, bind_exc, st_ok, st_exc, bind_nx, bind_ret, bind_brk, bind_cnt, bind_xc, fin_ret, fin_nx, fin_exc, asE_some, asB_ok, bop_add, bop_sub, bop_mul, bop_fdiv, bop_mod, cop_lt, cop_le, cop_gt, cop_ge, cop_eq, cop_ne, cop_eqb, cop_neb, blt_abs, blt_lenT, blt_lenL, flat, lLINE0, lLINE1, lLINE2, lLINE3, lLINE4, lLINE5, lLINE6, lLINE7, lLINE8, alloc, sub_fl, sub_tp, seqOf_tup, seqOf_fl, ↓ev_int, ↓ev_bl, ↓ev_str, ↓ev_non, List.getElem?_cons_zero, List.getElem?_cons_succ, List.set_cons_zero, List.set_cons_succ, List.length_cons, List.length_nil, List.map_cons, List.map_nil, List.replicate, List.nil_append, List.cons_append, List.append_nil, if_true, if_false, decide_true, decide_false, Bool.not_true, Bool.not_false, Bool.false_eq_true, Nat.reduceLT, Nat.reduceAdd, Nat.reduceSub, Nat.reduceLeDiff, Nat.zero_add, Nat.add_zero, Nat.sub_zero, Nat.lt_add_one, Nat.zero_lt_succ, and_true, and_self, true_and, ite_true, ite_false]⟩)
  show fin (exs _ (.cons (.ret _) .nil) [some (CT rooms tb th ap pig rows), none, none] S) = _
  rw [exs_cons, ex, ec, alloc_ref (by rw [List.length_map, LINE_num]; unfold innerP; omega), st_ok, bind_ret, fin_ret]
end
/-! ### alike -/
def al : Nat → D → Bool
  | _, .int _ => true
  | _, .str _ => true
  | k + 1, .fl xs => xs.all (al k) && decide (xs.length ≤ 1000)
  | k + 1, .tup xs => xs.all (al k) && decide (xs.length ≤ 1000)
  | _, _ => false
theorem al_nr : ∀ (k : Nat) (d : D), al k d = true → noref d = true := by
  intro k
  induction k with
  | zero => intro d h; cases d <;> first | rfl | (simp [al] at h)
  | succ k ih =>
    intro d h
    cases d with
    | int _ => rfl
    | str _ => rfl
    | fl xs =>
      simp only [al, Bool.and_eq_true] at h
      exact norefs_of fun x hx => ih x (List.all_eq_true.mp h.1 x hx)
    | tup xs =>
      simp only [al, Bool.and_eq_true] at h
      exact norefs_of fun x hx => ih x (List.all_eq_true.mp h.1 x hx)
    | _ => simp [al] at h
structure AHas (P : Prog) : Prop where
  fn : P.fn "_law_alike" = some F_law_alike
  isa : ∀ k ∈ ["int", "str", "tuple", "list"], ∀ t ∈ ["int", "bool", "str", "tuple", "list"], P.isa k t = some (decide (k = t))
theorem ev_isi {C : E1.Env} {a : Ex} {ts : List String} {σ : Slots} {S S1 : Store} {d : D} {b : Bool} (h : ev C a σ S = .ok d S1) (hb : isTs C S1 d ts = some b) : ev C (.isi a ts) σ S = .ok (.bl b) S1 := by
  rw [ev, h, bind_ok, hb]; rfl
theorem isTs1 {C : E1.Env} {S : Store} {d : D} {k t : String} {a : Bool} (hk : kindOf S d = some k) (ha : C.isa k t = some a) : isTs C S d [t] = some a := by
  unfold isTs isT
  rw [hk]
  show (match C.isa k t, isTs C S d [] with | some a, some b => some (a || b) | _, _ => none) = _
  rw [ha]
  show some (a || false) = _
  rw [Bool.or_false]
theorem isTs2 {C : E1.Env} {S : Store} {d : D} {k t u : String} {a b : Bool} (hk : kindOf S d = some k) (ha : C.isa k t = some a) (hb : C.isa k u = some b) : isTs C S d [t, u] = some (a || b) := by
  rw [isTs, isTs1 hk hb]
  unfold isT
  rw [hk]
  show (match C.isa k t, some b with | some a, some b => some (a || b) | _, _ => none) = _
  rw [ha]
theorem cop_nebb {b : Bool} {S : Store} : cop .ne (.bl b) (.bl b) S = .ok (.bl false) S := by cases b <;> rfl
theorem call_alike (hA : AHas P) : ∀ (k : Nat) (d : D), al k d = true → ∀ (n : Nat) (S : Store), call P (n + k + 1) "_law_alike" [d, d] S = .ok (.bl true) S := by
  intro k
  have facts : ∀ (k t : String), k ∈ ["int", "str", "tuple", "list"] → t ∈ ["int", "bool", "str", "tuple", "list"] → ∀ n, (envOf P n).isa k t = some (decide (k = t)) := fun k t hk ht n => hA.isa k hk t ht
  have atom_int : ∀ (i : Int) (n : Nat) (S : Store), call P (n + 1) "_law_alike" [.int i, .int i] S = .ok (.bl true) S := fun i n S => by
    rw [call_fin hA.fn n [.int i, .int i] S rfl (by decide)]
    have v0 : ev (envOf P n) (.var 0) [some (.int i), some (.int i), none, none] S = .ok (.int i) S := by simp only [ev, evs, evo, evc, asg, asgs, exs_cons, exs_nil, ex, bind_ok, bind_exc, st_ok, st_exc, bind_nx, bind_ret, bind_brk, bind_cnt, bind_xc, fin_ret, fin_nx, fin_exc, asE_some, asB_ok, bop_add, bop_sub, bop_mul, bop_fdiv, bop_mod, cop_lt, cop_le, cop_gt, cop_ge, cop_eq, cop_ne, cop_eqb, cop_neb, blt_abs, blt_lenT, blt_lenL, flat, lLINE0, lLINE1, lLINE2, lLINE3, lLINE4, lLINE5, lLINE6, lLINE7, lLINE8, alloc, sub_fl, sub_tp, seqOf_tup, seqOf_fl, ↓ev_int, ↓ev_bl, ↓ev_str, ↓ev_non, List.getElem?_cons_zero, List.getElem?_cons_succ, List.set_cons_zero, List.set_cons_succ, List.length_cons, List.length_nil, List.map_cons, List.map_nil, List.replicate, List.nil_append, List.cons_append, List.append_nil, if_true, if_false, decide_true, decide_false, Bool.not_true, Bool.not_false, Bool.false_eq_true, Nat.reduceLT, Nat.reduceAdd, Nat.reduceSub, Nat.reduceLeDiff, Nat.zero_add, Nat.add_zero, Nat.sub_zero, Nat.lt_add_one, Nat.zero_lt_succ, and_true, and_self, true_and, ite_true, ite_false]
    have v1 : ev (envOf P n) (.var 1) [some (.int i), some (.int i), none, none] S = .ok (.int i) S := by simp only [ev, evs, evo, evc, asg, asgs, exs_cons, exs_nil, ex, bind_ok, bind_exc, st_ok, st_exc, bind_nx, bind_ret, bind_brk, bind_cnt, bind_xc, fin_ret, fin_nx, fin_exc, asE_some, asB_ok, bop_add, bop_sub, bop_mul, bop_fdiv, bop_mod, cop_lt, cop_le, cop_gt, cop_ge, cop_eq, cop_ne, cop_eqb, cop_neb, blt_abs, blt_lenT, blt_lenL, flat, lLINE0, lLINE1, lLINE2, lLINE3, lLINE4, lLINE5, lLINE6, lLINE7, lLINE8, alloc, sub_fl, sub_tp, seqOf_tup, seqOf_fl, ↓ev_int, ↓ev_bl, ↓ev_str, ↓ev_non, List.getElem?_cons_zero, List.getElem?_cons_succ, List.set_cons_zero, List.set_cons_succ, List.length_cons, List.length_nil, List.map_cons, List.map_nil, List.replicate, List.nil_append, List.cons_append, List.append_nil, if_true, if_false, decide_true, decide_false, Bool.not_true, Bool.not_false, Bool.false_eq_true, Nat.reduceLT, Nat.reduceAdd, Nat.reduceSub, Nat.reduceLeDiff, Nat.zero_add, Nat.add_zero, Nat.sub_zero, Nat.lt_add_one, Nat.zero_lt_succ, and_true, and_self, true_and, ite_true, ite_false]
    have t1 := ev_isi v1 (isTs2 (d := .int i) rfl (facts "int" "list" (by simp) (by simp) n) (facts "int" "tuple" (by simp) (by simp) n))
    have t2 := ev_isi v1 (isTs1 (d := .int i) rfl (facts "int" "str" (by simp) (by simp) n))
    have t3 := ev_isi v0 (isTs1 (d := .int i) rfl (facts "int" "int" (by simp) (by simp) n))
    have t4 := ev_isi v0 (isTs1 (d := .int i) rfl (facts "int" "bool" (by simp) (by simp) n))
    show fin (exs _ (.cons (.ite _ _ .nil) (.cons (.ite _ _ .nil) (.cons (.ret (.and _ (.and _ _))) .nil))) [some (.int i), some (.int i), none, none] S) = _
    rw [exs_cons, ex_ite (p := false) (S1 := S) t1, if_neg (by simp), exs_nil, bind_nx, exs_cons, ex_ite (p := false) (S1 := S) t2, if_neg (by simp), exs_nil, bind_nx, exs_cons, ex, ev_and (p := true) (S1 := S) t3, if_pos rfl,
      ev_and (p := true) (S1 := S) (by rw [ev, t4]; rfl), if_pos rfl, ev, v0, bind_ok, v1, bind_ok, cop_eq, decide_eq_true rfl]
    rfl
  have atom_str : ∀ (i : Str) (n : Nat) (S : Store), call P (n + 1) "_law_alike" [.str i, .str i] S = .ok (.bl true) S := fun i n S => by
    rw [call_fin hA.fn n [.str i, .str i] S rfl (by decide)]
    have v0 : ev (envOf P n) (.var 0) [some (.str i), some (.str i), none, none] S = .ok (.str i) S := by simp only [ev, evs, evo, evc, asg, asgs, exs_cons, exs_nil, ex, bind_ok, bind_exc, st_ok, st_exc, bind_nx, bind_ret, bind_brk, bind_cnt, bind_xc, fin_ret, fin_nx, fin_exc, asE_some, asB_ok, bop_add, bop_sub, bop_mul, bop_fdiv, bop_mod, cop_lt, cop_le, cop_gt, cop_ge, cop_eq, cop_ne, cop_eqb, cop_neb, blt_abs, blt_lenT, blt_lenL, flat, lLINE0, lLINE1, lLINE2, lLINE3, lLINE4, lLINE5, lLINE6, lLINE7, lLINE8, alloc, sub_fl, sub_tp, seqOf_tup, seqOf_fl, ↓ev_int, ↓ev_bl, ↓ev_str, ↓ev_non, List.getElem?_cons_zero, List.getElem?_cons_succ, List.set_cons_zero, List.set_cons_succ, List.length_cons, List.length_nil, List.map_cons, List.map_nil, List.replicate, List.nil_append, List.cons_append, List.append_nil, if_true, if_false, decide_true, decide_false, Bool.not_true, Bool.not_false, Bool.false_eq_true, Nat.reduceLT, Nat.reduceAdd, Nat.reduceSub, Nat.reduceLeDiff, Nat.zero_add, Nat.add_zero, Nat.sub_zero, Nat.lt_add_one, Nat.zero_lt_succ, and_true, and_self, true_and, ite_true, ite_false]
    have v1 : ev (envOf P n) (.var 1) [some (.str i), some (.str i), none, none] S = .ok (.str i) S := by simp only [ev, evs, evo, evc, asg, asgs, exs_cons, exs_nil, ex, bind_ok, bind_exc, st_ok, st_exc, bind_nx, bind_ret, bind_brk, bind_cnt, bind_xc, fin_ret, fin_nx, fin_exc, asE_some, asB_ok, bop_add, bop_sub, bop_mul, bop_fdiv, bop_mod, cop_lt, cop_le, cop_gt, cop_ge, cop_eq, cop_ne, cop_eqb, cop_neb, blt_abs, blt_lenT, blt_lenL, flat, lLINE0, lLINE1, lLINE2, lLINE3, lLINE4, lLINE5, lLINE6, lLINE7, lLINE8, alloc, sub_fl, sub_tp, seqOf_tup, seqOf_fl, ↓ev_int, ↓ev_bl, ↓ev_str, ↓ev_non, List.getElem?_cons_zero, List.getElem?_cons_succ, List.set_cons_zero, List.set_cons_succ, List.length_cons, List.length_nil, List.map_cons, List.map_nil, List.replicate, List.nil_append, List.cons_append, List.append_nil, if_true, if_false, decide_true, decide_false, Bool.not_true, Bool.not_false, Bool.false_eq_true, Nat.reduceLT, Nat.reduceAdd, Nat.reduceSub, Nat.reduceLeDiff, Nat.zero_add, Nat.add_zero, Nat.sub_zero, Nat.lt_add_one, Nat.zero_lt_succ, and_true, and_self, true_and, ite_true, ite_false]
    have t1 := ev_isi v1 (isTs2 (d := .str i) rfl (facts "str" "list" (by simp) (by simp) n) (facts "str" "tuple" (by simp) (by simp) n))
    have t2 := ev_isi v1 (isTs1 (d := .str i) rfl (facts "str" "str" (by simp) (by simp) n))
    have t3 := ev_isi v0 (isTs1 (d := .str i) rfl (facts "str" "str" (by simp) (by simp) n))
    show fin (exs _ (.cons (.ite _ _ .nil) (.cons (.ite _ (.cons (.ret (.and _ _)) .nil) .nil) _)) [some (.str i), some (.str i), none, none] S) = _
    rw [exs_cons, ex_ite (p := false) (S1 := S) t1, if_neg (by simp), exs_nil, bind_nx, exs_cons, ex_ite (p := true) (S1 := S) t2, if_pos rfl, exs_cons, ex, ev_and (p := true) (S1 := S) t3, if_pos rfl, ev, v0, bind_ok, v1, bind_ok, cop_str, decide_eq_true rfl]
    rfl
  induction k with
  | zero =>
    intro d h n S
    cases d with
    | int i => exact atom_int i _ S
    | str i => exact atom_str i _ S
    | _ => simp [al] at h
  | succ k ih =>
    intro d h n S
    have row : ∀ (xs : List D) (d : D), noref d = true → xs.all (al k) = true → xs.length ≤ 1000 → (∃ kd, kindOf S d = some kd ∧ (kd = "list" ∨ kd = "tuple")) → blt .len [d] S = .ok (.int xs.length) S → zipOf S d d = some (zipD xs xs, none) → call P (n + (k + 1) + 1) "_law_alike" [d, d] S = .ok (.bl true) S := by
      intro xs d hn hx hl ⟨kd, hk, hkd⟩ hlen hzip
      rw [call_fin hA.fn (n + (k + 1)) [d, d] S rfl (by decide)]
      have v0 : ev (envOf P (n + (k + 1))) (.var 0) [some d, some d, none, none] S = .ok d S := by simp only [ev, evs, evo, evc, asg, asgs, exs_cons, exs_nil, ex, bind_ok, bind_exc, st_ok, st_exc, bind_nx, bind_ret, bind_brk, bind_cnt, bind_xc, fin_ret, fin_nx, fin_exc, asE_some, asB_ok, bop_add, bop_sub, bop_mul, bop_fdiv, bop_mod, cop_lt, cop_le, cop_gt, cop_ge, cop_eq, cop_ne, cop_eqb, cop_neb, blt_abs, blt_lenT, blt_lenL, flat, lLINE0, lLINE1, lLINE2, lLINE3, lLINE4, lLINE5, lLINE6, lLINE7, lLINE8, alloc, sub_fl, sub_tp, seqOf_tup, seqOf_fl, ↓ev_int, ↓ev_bl, ↓ev_str, ↓ev_non, List.getElem?_cons_zero, List.getElem?_cons_succ, List.set_cons_zero, List.set_cons_succ, List.length_cons, List.length_nil, List.map_cons, List.map_nil, List.replicate, List.nil_append, List.cons_append, List.append_nil, if_true, if_false, decide_true, decide_false, Bool.not_true, Bool.not_false, Bool.false_eq_true, Nat.reduceLT, Nat.reduceAdd, Nat.reduceSub, Nat.reduceLeDiff, Nat.zero_add, Nat.add_zero, Nat.sub_zero, Nat.lt_add_one, Nat.zero_lt_succ, and_true, and_self, true_and, ite_true, ite_false]
      have v1 : ev (envOf P (n + (k + 1))) (.var 1) [some d, some d, none, none] S = .ok d S := by simp only [ev, evs, evo, evc, asg, asgs, exs_cons, exs_nil, ex, bind_ok, bind_exc, st_ok, st_exc, bind_nx, bind_ret, bind_brk, bind_cnt, bind_xc, fin_ret, fin_nx, fin_exc, asE_some, asB_ok, bop_add, bop_sub, bop_mul, bop_fdiv, bop_mod, cop_lt, cop_le, cop_gt, cop_ge, cop_eq, cop_ne, cop_eqb, cop_neb, blt_abs, blt_lenT, blt_lenL, flat, lLINE0, lLINE1, lLINE2, lLINE3, lLINE4, lLINE5, lLINE6, lLINE7, lLINE8, alloc, sub_fl, sub_tp, seqOf_tup, seqOf_fl, ↓ev_int, ↓ev_bl, ↓ev_str, ↓ev_non, List.getElem?_cons_zero, List.getElem?_cons_succ, List.set_cons_zero, List.set_cons_succ, List.length_cons, List.length_nil, List.map_cons, List.map_nil, List.replicate, List.nil_append, List.cons_append, List.append_nil, if_true, if_false, decide_true, decide_false, Bool.not_true, Bool.not_false, Bool.false_eq_true, Nat.reduceLT, Nat.reduceAdd, Nat.reduceSub, Nat.reduceLeDiff, Nat.zero_add, Nat.add_zero, Nat.sub_zero, Nat.lt_add_one, Nat.zero_lt_succ, and_true, and_self, true_and, ite_true, ite_false]
      have hk4 : kd ∈ ["int", "str", "tuple", "list"] := by rcases hkd with rfl | rfl <;> simp
      have hor : (decide (kd = "list") || decide (kd = "tuple")) = true := by rcases hkd with rfl | rfl <;> rfl
      have t1 := ev_isi v1 (isTs2 hk (facts kd "list" hk4 (by simp) _) (facts kd "tuple" hk4 (by simp) _))
      have t0 := ev_isi v0 (isTs2 hk (facts kd "list" hk4 (by simp) _) (facts kd "tuple" hk4 (by simp) _))
      have l0 := ev_isi v0 (isTs1 hk (facts kd "list" hk4 (by simp) _))
      have l1 := ev_isi v1 (isTs1 hk (facts kd "list" hk4 (by simp) _))
      rw [hor] at t0 t1
      have hi : evi (envOf P (n + (k + 1))) (.zip (.var 0) (.var 1)) [some d, some d, none, none] S = .ok (xs.map fun x => .tup [x, x], none) S := by
        rw [evi, v0, bind_ok, v1, bind_ok, hzip, zipD_same]; rfl
      have ec := ev_compG (C := envOf P (n + (k + 1))) (box := false) (elt := .call true "_law_alike" (.cons (.var 2) (.cons (.var 3) .nil))) (tg := .tup (.cons (.name 2) (.cons (.name 3) .nil))) (own := [2, 3]) (fun x => D.tup [x, x]) (fun _ => D.bl true) hi trivial (by rw [LINE_num]; omega) (fun z hz => ⟨[some d, some d, some z, some z], by simp only [ev, evs, evo, evc, asg, asgs, exs_cons, exs_nil, ex, bind_ok, bind_exc, st_ok, st_exc, bind_nx, bind_ret, bind_brk, bind_cnt, bind_xc, fin_ret, fin_nx, fin_exc, asE_some, asB_ok, bop_add, bop_sub, bop_mul, bop_fdiv, bop_mod, cop_lt, cop_le, cop_gt, cop_ge, cop_eq, cop_ne, cop_eqb, cop_neb, blt_abs, blt_lenT, blt_lenL, flat, lLINE0, lLINE1, lLINE2, lLINE3, lLINE4, lLINE5, lLINE6, lLINE7, lLINE8, alloc, sub_fl, sub_tp, seqOf_tup, seqOf_fl, ↓ev_int, ↓ev_bl, ↓ev_str, ↓ev_non, List.getElem?_cons_zero, List.getElem?_cons_succ, List.set_cons_zero, List.set_cons_succ, List.length_cons, List.length_nil, List.map_cons, List.map_nil, List.replicate, List.nil_append, List.cons_append, List.append_nil, if_true, if_false, decide_true, decide_false, Bool.not_true, Bool.not_false, Bool.false_eq_true, Nat.reduceLT, Nat.reduceAdd, Nat.reduceSub, Nat.reduceLeDiff, Nat.zero_add, Nat.add_zero, Nat.sub_zero, Nat.lt_add_one, Nat.zero_lt_succ, and_true, and_self, true_and, ite_true, ite_false, wipe], by
        have hz' := List.all_eq_true.mp hx z hz
        have fz : ∀ S, frzCall (envOf P (n + (k + 1))) "_law_alike" [z, z] S = .ok (.bl true) S := fun S => frzCall_of (S' := []) (by simp only [norefs, al_nr k z hz']; rfl) (ih z hz' n []) rfl
        simp only [ev, evs, evo, evc, asg, asgs, exs_cons, exs_nil, ex, bind_ok, bind_exc, st_ok, st_exc, bind_nx, bind_ret, bind_brk, bind_cnt, bind_xc, fin_ret, fin_nx, fin_exc, asE_some, asB_ok, bop_add, bop_sub, bop_mul, bop_fdiv, bop_mod, cop_lt, cop_le, cop_gt, cop_ge, cop_eq, cop_ne, cop_eqb, cop_neb, blt_abs, blt_lenT, blt_lenL, flat, lLINE0, lLINE1, lLINE2, lLINE3, lLINE4, lLINE5, lLINE6, lLINE7, lLINE8, alloc, sub_fl, sub_tp, seqOf_tup, seqOf_fl, ↓ev_int, ↓ev_bl, ↓ev_str, ↓ev_non, List.getElem?_cons_zero, List.getElem?_cons_succ, List.set_cons_zero, List.set_cons_succ, List.length_cons, List.length_nil, List.map_cons, List.map_nil, List.replicate, List.nil_append, List.cons_append, List.append_nil, if_true, if_false, decide_true, decide_false, Bool.not_true, Bool.not_false, Bool.false_eq_true, Nat.reduceLT, Nat.reduceAdd, Nat.reduceSub, Nat.reduceLeDiff, Nat.zero_add, Nat.add_zero, Nat.sub_zero, Nat.lt_add_one, Nat.zero_lt_succ, and_true, and_self, true_and, ite_true, ite_false, fz]⟩)
      rw [alloc_fl (by rw [List.length_map, LINE_num]; omega)] at ec
      have hall : ∀ xs : List D, blt .all [.fl (xs.map fun _ => D.bl true)] S = .ok (.bl true) S := by
        intro xs
        have hb : ∀ xs : List D, bls? (xs.map fun _ => D.bl true) = some (xs.map fun _ => true) := by
          intro xs
          induction xs with
          | nil => rfl
          | cons x xs ih => simp only [List.map_cons, bls?, ih, Option.map_some]
        show (match bls? (xs.map fun _ => D.bl true) with | some bs => R.ok (D.bl (bs.all id)) S | none => .no) = _
        rw [hb]
        simp
      show fin (exs _ (.cons (.ite _ (.cons (.ite (.or (.not _) (.cmp .ne _ _)) _ .nil) (.cons (.ret (.and (.cmp .eq (.blt .len _) (.blt .len _)) (.blt .all (.cons _ .nil)))) .nil)) .nil) _) [some d, some d, none, none] S) = _
      rw [exs_cons, ex_ite (p := true) (S1 := S) t1, if_pos rfl, exs_cons,
        ex_ite (p := false) (S1 := S) (by
          rw [ev_or (p := false) (S1 := S) (by rw [ev, t0]; rfl), if_neg (by simp), ev, l0, bind_ok, l1, bind_ok, cop_nebb]), if_neg (by simp), exs_nil, bind_nx, exs_cons, ex,
        ev_and (p := true) (S1 := S) (by rw [ev, ev, evs, v0, bind_ok, evs, bind_ok, bind_ok, hlen, bind_ok, ev, evs, v1, bind_ok, evs, bind_ok, bind_ok, hlen, bind_ok, cop_eq, decide_eq_true rfl]), if_pos rfl, ev, evs, ec, bind_ok, evs, bind_ok, bind_ok, hall]
      rfl
    cases d with
    | int i => exact atom_int i _ S
    | str i => exact atom_str i _ S
    | fl xs =>
      have hn := al_nr (k + 1) _ h
      simp only [al, Bool.and_eq_true, decide_eq_true_eq] at h
      exact row xs _ hn h.1 h.2 ⟨"list", rfl, .inl rfl⟩ rfl rfl
    | tup xs =>
      have hn := al_nr (k + 1) _ h
      simp only [al, Bool.and_eq_true, decide_eq_true_eq] at h
      exact row xs _ hn h.1 h.2 ⟨"tuple", rfl, .inr rfl⟩ rfl rfl
    | _ => simp [al] at h
theorem frz_alike (hA : AHas P) (k n : Nat) (d : D) (h : al k d = true) (S : Store) : frzCall (envOf P (n + k + 1)) "_law_alike" [d, d] S = .ok (.bl true) S :=
  frzCall_of (S' := []) (by simp only [norefs, al_nr k d h]; rfl) (call_alike hA k d h n []) rfl
end E1.Fi

set_option maxHeartbeats 2000000
namespace E1.Fi
open PySem (Str)
open E1 E1.Com
variable {P : Prog}
/-! ### what lies at a place -/
def volS (rows : List (Str × Int)) : Int := (rows.map (·.2)).sum
theorem volS_cons (r : Str × Int) (rows : List (Str × Int)) : volS (r :: rows) = r.2 + volS rows := by unfold volS; simp
theorem volS_nil : volS [] = 0 := rfl
theorem volS_append (a b : List (Str × Int)) : volS (a ++ b) = volS a + volS b := by unfold volS; simp
theorem volS_nonneg {rows : List (Str × Int)} (h : ∀ r ∈ rows, 1 ≤ r.2) : 0 ≤ volS rows := by
  induction rows with
  | nil => exact Int.le_refl _
  | cons r rows ih =>
    rw [volS_cons]
    have := ih fun q hq => h q (by simp [hq])
    have := h r (by simp)
    omega
theorem betw_at : ∀ (pre : List (Str × Int)) (r : Str × Int) (post : List (Str × Int)) (pl p : Int), (∀ q ∈ pre, 1 ≤ q.2) → pl + volS pre ≤ p → p < pl + volS pre + r.2 → ∃ x t, betw p (p + 1) pl (pre ++ r :: post) = (r.1, x) :: t
  | [], r, post, pl, p, _, h1, h2 => by
    rw [volS_nil] at h1 h2
    have e1 : mx p pl = p := by unfold mx; rw [if_neg (by omega)]
    have e2 : mn (p + 1) (pl + r.2) = p + 1 := by unfold mn; rw [if_neg (by omega)]
    refine ⟨mn (p + 1) (pl + r.2) - mx p pl, betw p (p + 1) (pl + r.2) post, ?_⟩
    rw [List.nil_append, betw, if_pos (by rw [e1, e2]; omega)]
    rfl
  | q :: pre, r, post, pl, p, hq, h1, h2 => by
    rw [volS_cons] at h1 h2
    have hn := volS_nonneg fun x hx => hq x (List.mem_cons_of_mem _ hx)
    have hq1 := hq q (by simp)
    obtain ⟨x, t, ih⟩ := betw_at pre r post (pl + q.2) p (fun x hx => hq x (List.mem_cons_of_mem _ hx)) (by omega) (by omega)
    refine ⟨x, t, ?_⟩
    have e1 : mx p pl = p := by unfold mx; rw [if_neg (by omega)]
    have e2 : mn (p + 1) (pl + q.2) = pl + q.2 := by unfold mn; rw [if_pos (by omega)]
    rw [List.cons_append, betw, if_neg (by rw [e1, e2]; omega), ih]
    rfl
theorem call_ware_at (hW : P.fn "ware_at" = some F_ware_at) (hB : P.fn "rows_between" = some F_rows_between) (n : Nat) (rooms : List Int) (tb th ap : List D) (pig : D) (pre : List (Str × Int)) (r : Str × Int) (post : List (Str × Int)) (hl : (pre ++ r :: post).length < 1000) (hv : ∀ q ∈ pre, 1 ≤ q.2) (p : Int) (h1 : volS pre ≤ p) (h2 : p < volS pre + r.2) (S : Store) :
    call P (n + 2) "ware_at" [CT rooms tb th ap pig (pre ++ r :: post), .int p] S = .ok (.str r.1) S := by
  rw [call_fin hW (n + 1) [CT rooms tb th ap pig (pre ++ r :: post), .int p] S rfl (by decide)]
  obtain ⟨x, t, e⟩ := betw_at pre r post 0 p hv (by omega) (by omega)
  have fz := frz_betw hB n (pre ++ r :: post) p (p + 1) hl S
  rw [e] at fz
  have z0 : at? (rowS (r.1, x) :: List.map rowS t) 0 = some (rowS (r.1, x)) := at_zero _ _
  have z1 : ∀ S, subF S (rowS (r.1, x)) (.int 0) = some (.str r.1) := fun S => by rfl
  show fin (exs _ (.cons (.ret _) .nil) [some (CT rooms tb th ap pig (pre ++ r :: post)), some (.int p)] S) = _
  simp only [ev, evs, evo, evc, asg, asgs, exs_cons, exs_nil, ex, bind_ok, bind_exc, st_ok, st_exc, bind_nx, bind_ret, bind_brk, bind_cnt, bind_xc, fin_ret, fin_nx, fin_exc, asE_some, asB_ok, bop_add, bop_sub, bop_mul, bop_fdiv, bop_mod, cop_lt, cop_le, cop_gt, cop_ge, cop_eq, cop_ne, cop_eqb, cop_neb, blt_abs, blt_lenT, blt_lenL, flat, lLINE0, lLINE1, lLINE2, lLINE3, lLINE4, lLINE5, lLINE6, lLINE7, lLINE8, alloc, sub_fl, sub_tp, seqOf_tup, seqOf_fl, ↓ev_int, ↓ev_bl, ↓ev_str, ↓ev_non, List.getElem?_cons_zero, List.getElem?_cons_succ, List.set_cons_zero, List.set_cons_succ, List.length_cons, List.length_nil, List.map_cons, List.map_nil, List.replicate, List.nil_append, List.cons_append, List.append_nil, if_true, if_false, decide_true, decide_false, Bool.not_true, Bool.not_false, Bool.false_eq_true, Nat.reduceLT, Nat.reduceAdd, Nat.reduceSub, Nat.reduceLeDiff, Nat.zero_add, Nat.add_zero, Nat.sub_zero, Nat.lt_add_one, Nat.zero_lt_succ, and_true, and_self, true_and, ite_true, ite_false, ct_rows, fz, z0, z1]
theorem frz_ware_at (hW : P.fn "ware_at" = some F_ware_at) (hB : P.fn "rows_between" = some F_rows_between) (n : Nat) {rooms : List Int} {tb th ap : List D} {pig : D} (ho : PipeOk rooms tb th ap pig) (pre : List (Str × Int)) (r : Str × Int) (post : List (Str × Int)) (hl : (pre ++ r :: post).length < 1000) (hv : ∀ q ∈ pre, 1 ≤ q.2) (p : Int) (h1 : volS pre ≤ p) (h2 : p < volS pre + r.2) (S : Store) :
    frzCall (envOf P (n + 2)) "ware_at" [CT rooms tb th ap pig (pre ++ r :: post), .int p] S = .ok (.str r.1) S :=
  frzCall_of (S' := []) (by simp only [norefs, CT.nr ho, noref]; rfl) (call_ware_at hW hB n rooms tb th ap pig pre r post hl hv p h1 h2 []) rfl
/-! ### data -/
theorem al_rowS (rows : List (Str × Int)) (hl : rows.length ≤ 1000) : al 2 (.fl (rows.map rowS)) = true := by
  show ((rows.map rowS).all (al 1) && decide ((rows.map rowS).length ≤ 1000)) = true
  rw [List.length_map, decide_eq_true hl, Bool.and_true]
  exact List.all_eq_true.mpr fun x hx => by obtain ⟨p, _, rfl⟩ := List.mem_map.mp hx; rfl
theorem al_pr (ps : List Int) (hl : ps.length ≤ 1000) : al 2 (.fl (ps.map prD)) = true := by
  show ((ps.map prD).all (al 1) && decide ((ps.map prD).length ≤ 1000)) = true
  rw [List.length_map, decide_eq_true hl, Bool.and_true]
  exact List.all_eq_true.mpr fun x hx => by obtain ⟨p, _, rfl⟩ := List.mem_map.mp hx; rfl
theorem dataK_mono : ∀ (k : Nat) (d : D), dataK k d = true → dataK (k + 1) d = true := by
  intro k
  induction k with
  | zero => intro d h; cases d <;> first | rfl | (simp [dataK] at h)
  | succ k ih =>
    intro d h
    cases d with
    | fl xs =>
      simp only [dataK] at h ⊢
      exact List.all_eq_true.mpr fun x hx => ih x (List.all_eq_true.mp h x hx)
    | tup xs =>
      simp only [dataK] at h ⊢
      exact List.all_eq_true.mpr fun x hx => ih x (List.all_eq_true.mp h x hx)
    | _ => first | rfl | (simp [dataK] at h)
theorem dataK_le {k l : Nat} (h : k ≤ l) {d : D} (hd : dataK k d = true) : dataK l d = true := by
  induction l with
  | zero => have : k = 0 := by omega
            rw [← this]; exact hd
  | succ l ih =>
    by_cases e : k = l + 1
    · rw [← e]; exact hd
    · exact dataK_mono l d (ih (by omega))
theorem data_rowS (rows : List (Str × Int)) : dataK 2 (.fl (rows.map rowS)) = true := by
  show (rows.map rowS).all (dataK 1) = true
  exact List.all_eq_true.mpr fun x hx => by obtain ⟨p, _, rfl⟩ := List.mem_map.mp hx; rfl
theorem data_T5 {ws : List Str} {rooms : List Int} {ps : List (Int × Int)} {th ap : List D} {pig : D} {fill : List (Str × Int)} (b : Begun ws rooms ps th ap pig fill) : dataK 3 (T5 rooms (ps.map rowD) th ap pig) = true := by
  obtain ⟨p, q, rfl, _⟩ := b.pg
  show ((rooms.map D.int).all (dataK 1) && ((ps.map rowD).all (dataK 1) && (th.all (dataK 1) && (ap.all (dataK 1) && (true && true))))) = true
  have h1 : (rooms.map D.int).all (dataK 1) = true := List.all_eq_true.mpr fun x hx => by obtain ⟨p, _, rfl⟩ := List.mem_map.mp hx; rfl
  have h2 : (ps.map rowD).all (dataK 1) = true := List.all_eq_true.mpr fun x hx => by obtain ⟨p, _, rfl⟩ := List.mem_map.mp hx; rfl
  have h3 : th.all (dataK 1) = true := List.all_eq_true.mpr fun x hx => by obtain ⟨a, b, m, rfl, _⟩ := b.thk x hx; rfl
  have h4 : ap.all (dataK 1) = true := List.all_eq_true.mpr fun x hx => by obtain ⟨a, b, rfl⟩ := b.ok.ap.all x hx; rfl
  rw [h1, h2, h3, h4]; rfl
theorem cop_same {d e : D} {S : Store} {t : D} (h1 : rbd S d = t) (h2 : rbd S e = t) {k : Nat} (hk : k ≤ DK) (hd : dataK k t = true) : cop .eq d e S = .ok (.bl true) S ∧ cop .ne d e S = .ok (.bl false) S := by
  have hD := dataK_le hk hd
  have hq : deq t t = some true := by
    unfold deq
    rw [hD]
    simp only [Bool.and_self, if_true]
    rw [deqB_refl DK t hD]
  constructor
  · unfold cop
    split <;> first | (rename_i e1 e2 e3; cases e1) | skip
    all_goals simp_all
  · unfold cop
    split <;> first | (rename_i e1 e2 e3; cases e1) | skip
    all_goals simp_all
end E1.Fi

set_option maxHeartbeats 0
namespace E1.K10
open PySem PySem.Spec PyProof.Rows L2 E1
def tp (i : Nat) : Stmt := PySem.Challenge.pw_batchpipe_k10_a_fill.main.body.getD i (.Pass ⟨0, 0, 0, 0⟩)
def bodyC : Stmt → List Stmt
  | .ClassDef (body := b) .. => b
  | _ => []
def X_Touch : XDef := ⟨"Touch", "PipeError", ["pair"], ⟨(Str.ofString "Touch", some (Str.ofString "__init__")), Str.ofString "__init__", Str.ofString "Touch.__init__", defArgs ((bodyC (tp 3)).getD 0 (.Pass ⟨0, 0, 0, 0⟩)), defBody ((bodyC (tp 3)).getD 0 (.Pass ⟨0, 0, 0, 0⟩)), defScope ((bodyC (tp 3)).getD 0 (.Pass ⟨0, 0, 0, 0⟩)), [], []⟩⟩
def N_Pipe___init__ : List String := ["self", "rooms", "table", "thick", "apart", "pig"]
def F_Pipe___init__ : Def := ⟨6, 6, (.cons (.asg (.att (.var 0) "rooms") (.blt (.list true) (.cons (.var 1) .nil)))
  (.cons (.asg (.att (.var 0) "table") (.blt (.list true) (.cons (.var 2) .nil)))
  (.cons (.asg (.att (.var 0) "thick") (.blt (.list true) (.cons (.var 3) .nil)))
  (.cons (.asg (.att (.var 0) "apart") (.blt (.list true) (.cons (.var 4) .nil)))
  (.cons (.asg (.att (.var 0) "pig") (.var 5))
  .nil)))))⟩
def E_Pipe___init__ : DefE := ⟨"Pipe.__init__", ⟨(Str.ofString "Pipe", some (Str.ofString "__init__")), Str.ofString "__init__", Str.ofString "Pipe.__init__", defArgs ((bodyC (tp 5)).getD 0 (.Pass ⟨0, 0, 0, 0⟩)), defBody ((bodyC (tp 5)).getD 0 (.Pass ⟨0, 0, 0, 0⟩)), defScope ((bodyC (tp 5)).getD 0 (.Pass ⟨0, 0, 0, 0⟩)), [], []⟩, N_Pipe___init__, F_Pipe___init__⟩
def N_place_of : List String := ["pipe", "node"]
def F_place_of : Def := ⟨2, 2, (.cons (.ret (.blt .sum (.cons (.slc false (.att (.var 0) "rooms") .no (.so (.var 1))) .nil)))
  .nil)⟩
def E_place_of : DefE := ⟨"place_of", ⟨(Str.ofString "place_of", none), Str.ofString "place_of", Str.ofString "place_of", defArgs (tp 6), defBody (tp 6), defScope (tp 6), [], []⟩, N_place_of, F_place_of⟩
def N_are_apart : List String := ["pipe", "one", "other"]
def F_are_apart : Def := ⟨3, 3, (.cons (.ret (.or (.cmp .inn (.tup (.cons (.var 1) (.cons (.var 2) .nil))) (.att (.var 0) "apart")) (.cmp .inn (.tup (.cons (.var 2) (.cons (.var 1) .nil))) (.att (.var 0) "apart"))))
  .nil)⟩
def E_are_apart : DefE := ⟨"are_apart", ⟨(Str.ofString "are_apart", none), Str.ofString "are_apart", Str.ofString "are_apart", defArgs (tp 7), defBody (tp 7), defScope (tp 7), [], []⟩, N_are_apart, F_are_apart⟩
def N_joined_rows : List String := ["pairs", "rows", "ware", "volume"]
def F_joined_rows : Def := ⟨1, 4, (.cons (.asg (.name 1) (.lst true .nil))
  (.cons (.for_ (.tup (.cons (.name 2) (.cons (.name 3) .nil))) (.ex (.var 0))
  (.cons (.ite (.and (.cmp .gt (.blt .len (.cons (.var 1) .nil)) (.lit (.int 0))) (.cmp .eq (.sub (.sub (.var 1) (.neg (.lit (.int 1)))) (.lit (.int 0))) (.var 2)))
  (.cons (.asg (.sub (.var 1) (.neg (.lit (.int 1)))) (.tup (.cons (.var 2) (.cons (.bin .add (.sub (.sub (.var 1) (.neg (.lit (.int 1)))) (.lit (.int 1))) (.var 3)) .nil))))
  .nil)
  (.cons (.expr (.bm "append" false (.var 1) (.cons (.tup (.cons (.var 2) (.cons (.var 3) .nil))) .nil)))
  .nil))
  .nil))
  (.cons (.ret (.var 1))
  .nil)))⟩
def E_joined_rows : DefE := ⟨"joined_rows", ⟨(Str.ofString "joined_rows", none), Str.ofString "joined_rows", Str.ofString "joined_rows", defArgs (tp 9), defBody (tp 9), defScope (tp 9), [], []⟩, N_joined_rows, F_joined_rows⟩
def N_rows_between : List String := ["rows", "low", "high", "found", "place", "ware", "volume", "begin"]
def F_rows_between : Def := ⟨3, 8, (.cons (.asg (.name 3) (.lst true .nil))
  (.cons (.asg (.name 4) (.lit (.int 0)))
  (.cons (.for_ (.tup (.cons (.name 5) (.cons (.name 6) .nil))) (.ex (.var 0))
  (.cons (.asg (.name 7) (.blt .max2 (.cons (.var 1) (.cons (.var 4) .nil))))
  (.cons (.aug 4 .add (.var 6))
  (.cons (.ite (.cmp .gt (.blt .min2 (.cons (.var 2) (.cons (.var 4) .nil))) (.var 7))
  (.cons (.expr (.bm "append" false (.var 3) (.cons (.tup (.cons (.var 5) (.cons (.bin .sub (.blt .min2 (.cons (.var 2) (.cons (.var 4) .nil))) (.var 7)) .nil))) .nil)))
  .nil)
  .nil)
  .nil))))
  (.cons (.ret (.var 3))
  .nil))))⟩
def E_rows_between : DefE := ⟨"rows_between", ⟨(Str.ofString "rows_between", none), Str.ofString "rows_between", Str.ofString "rows_between", defArgs (tp 10), defBody (tp 10), defScope (tp 10), [], []⟩, N_rows_between, F_rows_between⟩
def N_inner_places : List String := ["rows", "places", "place", "ware", "volume"]
def F_inner_places : Def := ⟨1, 5, (.cons (.asg (.name 1) (.lst true .nil))
  (.cons (.asg (.name 2) (.lit (.int 0)))
  (.cons (.for_ (.tup (.cons (.name 3) (.cons (.name 4) .nil))) (.ex (.var 0))
  (.cons (.ite (.cmp .gt (.var 2) (.lit (.int 0)))
  (.cons (.expr (.bm "append" false (.var 1) (.cons (.var 2) .nil)))
  .nil)
  .nil)
  (.cons (.aug 2 .add (.var 4))
  .nil)))
  (.cons (.ret (.var 1))
  .nil))))⟩
def E_inner_places : DefE := ⟨"inner_places", ⟨(Str.ofString "inner_places", none), Str.ofString "inner_places", Str.ofString "inner_places", defArgs (tp 11), defBody (tp 11), defScope (tp 11), [], []⟩, N_inner_places, F_inner_places⟩
def N_end_place : List String := ["pipe"]
def F_end_place : Def := ⟨1, 1, (.cons (.ret (.call true "place_of" (.cons (.var 0) (.cons (.blt .len (.cons (.att (.var 0) "rooms") .nil)) .nil))))
  .nil)⟩
def E_end_place : DefE := ⟨"end_place", ⟨(Str.ofString "end_place", none), Str.ofString "end_place", Str.ofString "end_place", defArgs (tp 12), defBody (tp 12), defScope (tp 12), [], []⟩, N_end_place, F_end_place⟩
def N_first_apart : List String := ["pipe", "rows", "one", "other"]
def F_first_apart : Def := ⟨2, 4, (.cons (.for_ (.tup (.cons (.name 2) (.cons (.name 3) .nil))) (.zip (.var 1) (.slc false (.var 1) (.so (.lit (.int 1))) .no))
  (.cons (.ite (.call true "are_apart" (.cons (.var 0) (.cons (.sub (.var 2) (.lit (.int 0))) (.cons (.sub (.var 3) (.lit (.int 0))) .nil))))
  (.cons (.ret (.tup (.cons (.sub (.var 2) (.lit (.int 0))) (.cons (.sub (.var 3) (.lit (.int 0))) .nil))))
  .nil)
  .nil)
  .nil))
  (.cons (.ret (.lit .non))
  .nil))⟩
def E_first_apart : DefE := ⟨"first_apart", ⟨(Str.ofString "first_apart", none), Str.ofString "first_apart", Str.ofString "first_apart", defArgs (tp 13), defBody (tp 13), defScope (tp 13), [], []⟩, N_first_apart, F_first_apart⟩
def N_Content___init__ : List String := ["self", "pipe", "fill", "ware", "volume", "pair"]
def F_Content___init__ : Def := ⟨3, 6, (.cons (.asg (.att (.var 0) "pipe") (.make false "Pipe" (.cons (.att (.var 1) "rooms") (.cons (.att (.var 1) "table") (.cons (.att (.var 1) "thick") (.cons (.att (.var 1) "apart") (.cons (.att (.var 1) "pig") .nil)))))))
  (.cons (.asg (.att (.var 0) "row_kept") (.call false "joined_rows" (.cons (.var 2) .nil)))
  (.cons (.ite (.cmp .ne (.blt .sum (.cons (.comp false (.var 4) (.tup (.cons (.name 3) (.cons (.name 4) .nil))) (.ex (.var 2)) .no [3, 4]) .nil)) (.call true "end_place" (.cons (.var 1) .nil)))
  (.cons (.raise "BadFill" (.cons (.lit (.str "a fill that is not as great as the pipe")) .nil))
  .nil)
  .nil)
  (.cons (.asg (.name 5) (.call true "first_apart" (.cons (.var 1) (.cons (.att (.var 0) "row_kept") .nil))))
  (.cons (.ite (.cmp .notN (.var 5) (.lit .non))
  (.cons (.raise "Touch" (.cons (.var 5) .nil))
  .nil)
  .nil)
  (.cons (.asg (.att (.var 0) "sinces_kept") (.call false "inner_places" (.cons (.att (.var 0) "row_kept") .nil)))
  (.cons (.asg (.att (.var 0) "pigs_kept") (.lst false .nil))
  .nil)))))))⟩
def E_Content___init__ : DefE := ⟨"Content.__init__", ⟨(Str.ofString "Content", some (Str.ofString "__init__")), Str.ofString "__init__", Str.ofString "Content.__init__", defArgs ((bodyC (tp 14)).getD 0 (.Pass ⟨0, 0, 0, 0⟩)), defBody ((bodyC (tp 14)).getD 0 (.Pass ⟨0, 0, 0, 0⟩)), defScope ((bodyC (tp 14)).getD 0 (.Pass ⟨0, 0, 0, 0⟩)), [], []⟩, N_Content___init__, F_Content___init__⟩
def N_stretches : List String := ["content"]
def F_stretches : Def := ⟨1, 1, (.cons (.ret (.blt (.list true) (.cons (.att (.var 0) "row_kept") .nil)))
  .nil)⟩
def E_stretches : DefE := ⟨"stretches", ⟨(Str.ofString "stretches", none), Str.ofString "stretches", Str.ofString "stretches", defArgs (tp 15), defBody (tp 15), defScope (tp 15), [], []⟩, N_stretches, F_stretches⟩
def N_meetings : List String := ["content", "place", "since"]
def F_meetings : Def := ⟨1, 3, (.cons (.ret (.comp true (.tup (.cons (.var 1) (.cons (.var 2) .nil))) (.tup (.cons (.name 1) (.cons (.name 2) .nil))) (.zip (.call true "inner_places" (.cons (.att (.var 0) "row_kept") .nil)) (.att (.var 0) "sinces_kept")) .no [1, 2]))
  .nil)⟩
def E_meetings : DefE := ⟨"meetings", ⟨(Str.ofString "meetings", none), Str.ofString "meetings", Str.ofString "meetings", defArgs (tp 16), defBody (tp 16), defScope (tp 16), [], []⟩, N_meetings, F_meetings⟩
def N_pigs : List String := ["content"]
def F_pigs : Def := ⟨1, 1, (.cons (.ret (.blt (.list true) (.cons (.att (.var 0) "pigs_kept") .nil)))
  .nil)⟩
def E_pigs : DefE := ⟨"pigs", ⟨(Str.ofString "pigs", none), Str.ofString "pigs", Str.ofString "pigs", defArgs (tp 17), defBody (tp 17), defScope (tp 17), [], []⟩, N_pigs, F_pigs⟩
def N_ware_at : List String := ["content", "place"]
def F_ware_at : Def := ⟨2, 2, (.cons (.ret (.sub (.sub (.call true "rows_between" (.cons (.att (.var 0) "row_kept") (.cons (.var 1) (.cons (.bin .add (.var 1) (.lit (.int 1))) .nil)))) (.lit (.int 0))) (.lit (.int 0))))
  .nil)⟩
def E_ware_at : DefE := ⟨"ware_at", ⟨(Str.ofString "ware_at", none), Str.ofString "ware_at", Str.ofString "ware_at", defArgs (tp 18), defBody (tp 18), defScope (tp 18), [], []⟩, N_ware_at, F_ware_at⟩
def N_law_mix : List String := ["_law_cell", "_law_k", "_law_once"]
def F_law_mix : Def := ⟨2, 3, (.cons (.asg (.name 2) (.bin .mod (.bin .mul (.bin .add (.bin .add (.bin .mod (.var 0) (.bin .pow (.lit (.int 10)) (.lit (.int 30)))) (.bin .mul (.lit (.int 7919)) (.var 1))) (.lit (.int 11))) (.bin .add (.bin .mul (.var 1) (.var 1)) (.lit (.int 48271)))) (.lit (.int 2147483647))))
  (.cons (.ret (.bin .fdiv (.bin .mod (.bin .mul (.var 2) (.var 2)) (.lit (.int 2147483629))) (.lit (.int 3))))
  .nil))⟩
def E_law_mix : DefE := ⟨"_law_mix", ⟨(Str.ofString "_law_mix", none), Str.ofString "_law_mix", Str.ofString "_law_mix", defArgs (tp 20), defBody (tp 20), defScope (tp 20), [], []⟩, N_law_mix, F_law_mix⟩
def N_law_at : List String := ["_law_script", "_law_k"]
def F_law_at : Def := ⟨2, 2, (.cons (.ite (.cmp .lt (.var 1) (.blt .len (.cons (.var 0) .nil)))
  (.cons (.ret (.sub (.var 0) (.var 1)))
  .nil)
  .nil)
  (.cons (.ret (.bin .sub (.blt .len (.cons (.var 0) .nil)) (.var 1)))
  .nil))⟩
def E_law_at : DefE := ⟨"_law_at", ⟨(Str.ofString "_law_at", none), Str.ofString "_law_at", Str.ofString "_law_at", defArgs (tp 21), defBody (tp 21), defScope (tp 21), [], []⟩, N_law_at, F_law_at⟩
def N_law_wares : List String := ["_law_cell", "_law_letters", "_law_size", "_law_stem", "_law_k", "_law_place", "_law_sign"]
def F_law_wares : Def := ⟨1, 7, (.cons (.asg (.name 1) (.lit (.str "abcdefghijklmnopqrstuvwxyz")))
  (.cons (.asg (.name 2) (.bin .mod (.call true "_law_mix" (.cons (.var 0) (.cons (.lit (.int 1)) .nil))) (.lit (.int 8))))
  (.cons (.asg (.name 3) (.lit (.str "")))
  (.cons (.for_ (.name 4) (.rng (.cons (.lit (.int 8)) .nil))
  (.cons (.asg (.name 3) (.bin .add (.var 3) (.sub (.var 1) (.bin .mod (.call true "_law_mix" (.cons (.var 0) (.cons (.bin .add (.var 4) (.lit (.int 2))) .nil))) (.lit (.int 26))))))
  .nil))
  (.cons (.asg (.name 5) (.bin .mod (.call true "_law_mix" (.cons (.var 0) (.cons (.lit (.int 11)) .nil))) (.bin .add (.var 2) (.lit (.int 1)))))
  (.cons (.ite (.cmp .eq (.bin .mod (.call true "_law_mix" (.cons (.var 0) (.cons (.lit (.int 12)) .nil))) (.lit (.int 3))) (.lit (.int 0)))
  (.cons (.ret (.comp false (.slc false (.var 3) .no (.so (.bin .add (.bin .add (.var 4) (.lit (.int 1))) (.bin .mod (.call true "_law_mix" (.cons (.var 0) (.cons (.lit (.int 13)) .nil))) (.lit (.int 3)))))) (.name 4) (.rng (.cons (.lit (.int 6)) .nil)) .no [4]))
  .nil)
  .nil)
  (.cons (.ret (.comp false (.bin .add (.bin .add (.slc false (.var 3) .no (.so (.var 5))) (.var 6)) (.slc false (.var 3) (.so (.var 5)) (.so (.var 2)))) (.name 6) (.ex (.lit (.str "fbdace"))) .no [6]))
  .nil)))))))⟩
def E_law_wares : DefE := ⟨"_law_wares", ⟨(Str.ofString "_law_wares", none), Str.ofString "_law_wares", Str.ofString "_law_wares", defArgs (tp 22), defBody (tp 22), defScope (tp 22), [], []⟩, N_law_wares, F_law_wares⟩
def N_law_five : List String := ["_law_cell", "_law_wares_here", "_law_most", "_law_rooms", "_law_k", "_law_rows", "_law_distance", "_law_half", "_law_thick", "_law_apart_here", "_law_p", "_law_q", "_law_one", "_law_pair", "_law_pig"]
def F_law_five : Def := ⟨3, 15, (.cons (.asg (.name 3) (.comp false (.bin .add (.lit (.int 1)) (.bin .mod (.call true "_law_mix" (.cons (.var 0) (.cons (.bin .add (.lit (.int 20)) (.var 4)) .nil))) (.var 2))) (.name 4) (.rng (.cons (.bin .add (.lit (.int 1)) (.bin .mod (.call true "_law_mix" (.cons (.var 0) (.cons (.lit (.int 19)) .nil))) (.lit (.int 4)))) .nil)) .no [4]))
  (.cons (.asg (.name 5) (.lst true .nil))
  (.cons (.asg (.name 6) (.lit (.int 0)))
  (.cons (.asg (.name 7) (.lit (.int 0)))
  (.cons (.for_ (.name 4) (.rng (.cons (.bin .mod (.call true "_law_mix" (.cons (.var 0) (.cons (.lit (.int 30)) .nil))) (.lit (.int 4))) .nil))
  (.cons (.asg (.name 6) (.bin .add (.bin .add (.var 6) (.lit (.int 1))) (.bin .mod (.call true "_law_mix" (.cons (.var 0) (.cons (.bin .add (.lit (.int 31)) (.var 4)) .nil))) (.bin .add (.bin .fdiv (.var 2) (.lit (.int 2))) (.lit (.int 2))))))
  (.cons (.asg (.name 7) (.bin .add (.var 7) (.bin .mul (.bin .mod (.call true "_law_mix" (.cons (.var 0) (.cons (.bin .add (.lit (.int 41)) (.var 4)) .nil))) (.lit (.int 3))) (.bin .mod (.call true "_law_mix" (.cons (.var 0) (.cons (.bin .add (.lit (.int 51)) (.var 4)) .nil))) (.bin .add (.bin .fdiv (.var 2) (.lit (.int 4))) (.lit (.int 2)))))))
  (.cons (.expr (.bm "append" false (.var 5) (.cons (.tup (.cons (.var 6) (.cons (.var 7) .nil))) .nil)))
  .nil))))
  (.cons (.asg (.name 8) (.lst true .nil))
  (.cons (.asg (.name 9) (.lst true .nil))
  (.cons (.for_ (.name 10) (.rng (.cons (.lit (.int 6)) .nil))
  (.cons (.for_ (.name 11) (.rng (.cons (.var 10) .nil))
  (.cons (.asg (.name 12) (.call true "_law_mix" (.cons (.var 0) (.cons (.bin .add (.bin .add (.lit (.int 60)) (.bin .mul (.lit (.int 6)) (.var 10))) (.var 11)) .nil))))
  (.cons (.asg (.name 13) (.sub (.lst false (.cons (.tup (.cons (.sub (.var 1) (.var 10)) (.cons (.sub (.var 1) (.var 11)) .nil))) (.cons (.tup (.cons (.sub (.var 1) (.var 11)) (.cons (.sub (.var 1) (.var 10)) .nil))) .nil))) (.bin .mod (.var 12) (.lit (.int 2)))))
  (.cons (.ite (.cmp .eq (.bin .mod (.bin .fdiv (.var 12) (.lit (.int 2))) (.lit (.int 3))) (.lit (.int 0)))
  (.cons (.expr (.bm "append" false (.var 8) (.cons (.bin .add (.var 13) (.tup (.cons (.bin .mod (.bin .fdiv (.var 12) (.lit (.int 6))) (.lit (.int 4))) .nil))) .nil)))
  .nil)
  .nil)
  (.cons (.ite (.cmp .eq (.bin .mod (.bin .fdiv (.var 12) (.lit (.int 24))) (.lit (.int 9))) (.lit (.int 0)))
  (.cons (.expr (.bm "append" false (.var 9) (.cons (.var 13) .nil)))
  .nil)
  .nil)
  .nil)))))
  .nil))
  (.cons (.asg (.name 14) (.tup (.cons (.bin .mod (.call true "_law_mix" (.cons (.var 0) (.cons (.lit (.int 100)) .nil))) (.lit (.int 5))) (.cons (.bin .add (.lit (.int 4)) (.bin .mod (.call true "_law_mix" (.cons (.var 0) (.cons (.lit (.int 101)) .nil))) (.lit (.int 3)))) .nil))))
  (.cons (.ret (.lst true (.cons (.var 3) (.cons (.var 5) (.cons (.var 8) (.cons (.var 9) (.cons (.var 14) .nil)))))))
  .nil))))))))))⟩
def E_law_five : DefE := ⟨"_law_five", ⟨(Str.ofString "_law_five", none), Str.ofString "_law_five", Str.ofString "_law_five", defArgs (tp 23), defBody (tp 23), defScope (tp 23), [], []⟩, N_law_five, F_law_five⟩
def N_law_apart : List String := ["_law_five_here", "_law_one", "_law_other"]
def F_law_apart : Def := ⟨3, 3, (.cons (.ret (.or (.cmp .inn (.tup (.cons (.var 1) (.cons (.var 2) .nil))) (.sub (.var 0) (.lit (.int 3)))) (.cmp .inn (.tup (.cons (.var 2) (.cons (.var 1) .nil))) (.sub (.var 0) (.lit (.int 3))))))
  .nil)⟩
def E_law_apart : DefE := ⟨"_law_apart", ⟨(Str.ofString "_law_apart", none), Str.ofString "_law_apart", Str.ofString "_law_apart", defArgs (tp 24), defBody (tp 24), defScope (tp 24), [], []⟩, N_law_apart, F_law_apart⟩
def N_law_fill : List String := ["_law_five_here", "_law_cell", "_law_wares_here", "_law_total", "_law_fill_here", "_law_rest", "_law_one", "_law_ware", "_law_volume"]
def F_law_fill : Def := ⟨3, 9, (.cons (.asg (.name 3) (.blt .sum (.cons (.sub (.var 0) (.lit (.int 0))) .nil)))
  (.cons (.asg (.name 4) (.lst true .nil))
  (.cons (.asg (.name 5) (.bin .fdiv (.blt .abs (.cons (.var 1) .nil)) (.lit (.int 2))))
  (.cons (.while_ (.cmp .gt (.var 3) (.lit (.int 0)))
  (.cons (.asg (.name 6) (.call true "_law_mix" (.cons (.var 1) (.cons (.bin .add (.lit (.int 200)) (.blt .len (.cons (.var 4) .nil))) .nil))))
  (.cons (.ite (.cmp .eq (.bin .mod (.var 1) (.lit (.int 2))) (.lit (.int 0)))
  (.cons (.asg (.name 6) (.bin .mod (.var 5) (.lit (.int 360))))
  (.cons (.asg (.name 5) (.bin .fdiv (.var 5) (.lit (.int 360))))
  .nil))
  .nil)
  (.cons (.asg (.name 7) (.sub (.var 2) (.bin .mod (.var 6) (.lit (.int 6)))))
  (.cons (.ite (.and (.cmp .gt (.blt .len (.cons (.var 4) .nil)) (.lit (.int 0))) (.call true "_law_apart" (.cons (.var 0) (.cons (.sub (.sub (.var 4) (.neg (.lit (.int 1)))) (.lit (.int 0))) (.cons (.var 7) .nil)))))
  (.cons (.asg (.name 7) (.sub (.sub (.var 4) (.neg (.lit (.int 1)))) (.lit (.int 0))))
  .nil)
  .nil)
  (.cons (.asg (.name 8) (.blt .min2 (.cons (.var 3) (.cons (.bin .add (.lit (.int 1)) (.bin .mod (.bin .fdiv (.var 6) (.lit (.int 6))) (.bin .add (.lit (.int 1)) (.blt .max2 (.cons (.lit (.int 5)) (.cons (.bin .fdiv (.blt .sum (.cons (.sub (.var 0) (.lit (.int 0))) .nil)) (.lit (.int 6))) .nil)))))) .nil))))
  (.cons (.ite (.cmp .gt (.blt .len (.cons (.var 4) .nil)) (.lit (.int 48)))
  (.cons (.asg (.name 8) (.var 3))
  .nil)
  .nil)
  (.cons (.expr (.bm "append" false (.var 4) (.cons (.tup (.cons (.var 7) (.cons (.var 8) .nil))) .nil)))
  (.cons (.asg (.name 3) (.bin .sub (.var 3) (.var 8)))
  .nil)))))))))
  (.cons (.ret (.var 4))
  .nil)))))⟩
def E_law_fill : DefE := ⟨"_law_fill", ⟨(Str.ofString "_law_fill", none), Str.ofString "_law_fill", Str.ofString "_law_fill", defArgs (tp 25), defBody (tp 25), defScope (tp 25), [], []⟩, N_law_fill, F_law_fill⟩
def N_law_push : List String := ["_law_five_here", "_law_cell", "_law_k", "_law_wares_here", "_law_rest", "_law_many", "_law_i", "_law_j", "_law_size", "_law_volume", "_law_pig"]
def F_law_push : Def := ⟨4, 11, (.cons (.asg (.name 4) (.bin .add (.bin .mul (.call true "_law_mix" (.cons (.var 1) (.cons (.bin .add (.lit (.int 300)) (.var 2)) .nil))) (.lit (.int 715827883))) (.call true "_law_mix" (.cons (.var 1) (.cons (.bin .add (.lit (.int 400)) (.var 2)) .nil)))))
  (.cons (.ite (.cmp .eq (.bin .mod (.var 1) (.lit (.int 2))) (.lit (.int 0)))
  (.cons (.asg (.name 4) (.bin .fdiv (.blt .abs (.cons (.var 1) .nil)) (.lit (.int 2))))
  .nil)
  .nil)
  (.cons (.asg (.name 5) (.blt .len (.cons (.sub (.var 0) (.lit (.int 0))) .nil)))
  (.cons (.asg (.name 6) (.sub (.lst false (.cons (.lit (.int 0)) (.cons (.lit (.int 0)) (.cons (.bin .mod (.bin .fdiv (.var 4) (.lit (.int 3))) (.var 5)) .nil)))) (.bin .mod (.var 4) (.lit (.int 3)))))
  (.cons (.asg (.name 4) (.bin .fdiv (.var 4) (.bin .mul (.lit (.int 3)) (.var 5))))
  (.cons (.asg (.name 7) (.bin .add (.bin .add (.var 6) (.lit (.int 1))) (.bin .mod (.var 4) (.bin .sub (.var 5) (.var 6)))))
  (.cons (.asg (.name 4) (.bin .fdiv (.var 4) (.bin .sub (.var 5) (.var 6))))
  (.cons (.asg (.name 8) (.sub (.lst false (.cons (.lit (.int 3)) (.cons (.lit (.int 9)) (.cons (.bin .add (.bin .fdiv (.blt .sum (.cons (.sub (.var 0) (.lit (.int 0))) .nil)) (.lit (.int 2))) (.lit (.int 1))) (.cons (.bin .mul (.lit (.int 2)) (.blt .sum (.cons (.sub (.var 0) (.lit (.int 0))) .nil))) .nil))))) (.bin .mod (.bin .fdiv (.var 4) (.lit (.int 6))) (.lit (.int 4)))))
  (.cons (.asg (.name 9) (.bin .add (.lit (.int 1)) (.bin .mod (.bin .fdiv (.var 4) (.lit (.int 24))) (.var 8))))
  (.cons (.asg (.name 10) (.bin .fdiv (.var 4) (.bin .mul (.lit (.int 24)) (.var 8))))
  (.cons (.ret (.tup (.cons (.var 6) (.cons (.var 7) (.cons (.sub (.var 3) (.bin .mod (.var 4) (.lit (.int 6)))) (.cons (.var 9) (.cons (.sub (.lst false (.cons (.lit .non) (.cons (.bin .mod (.bin .fdiv (.var 10) (.lit (.int 4))) (.lit (.int 1000))) .nil))) (.blt .int (.cons (.cmp .eq (.bin .mod (.var 10) (.lit (.int 4))) (.lit (.int 0))) .nil))) .nil)))))))
  .nil)))))))))))⟩
def E_law_push : DefE := ⟨"_law_push", ⟨(Str.ofString "_law_push", none), Str.ofString "_law_push", Str.ofString "_law_push", defArgs (tp 26), defBody (tp 26), defScope (tp 26), [], []⟩, N_law_push, F_law_push⟩
def N_law_alike : List String := ["_law_found", "_law_due", "_law_one", "_law_other"]
def F_law_alike : Def := ⟨2, 4, (.cons (.ite (.isi (.var 1) ["list", "tuple"])
  (.cons (.ite (.or (.not (.isi (.var 0) ["list", "tuple"])) (.cmp .ne (.isi (.var 0) ["list"]) (.isi (.var 1) ["list"])))
  (.cons (.ret (.lit (.bl false)))
  .nil)
  .nil)
  (.cons (.ret (.and (.cmp .eq (.blt .len (.cons (.var 0) .nil)) (.blt .len (.cons (.var 1) .nil))) (.blt .all (.cons (.comp false (.call true "_law_alike" (.cons (.var 2) (.cons (.var 3) .nil))) (.tup (.cons (.name 2) (.cons (.name 3) .nil))) (.zip (.var 0) (.var 1)) .no [2, 3]) .nil))))
  .nil))
  .nil)
  (.cons (.ite (.isi (.var 1) ["str"])
  (.cons (.ret (.and (.isi (.var 0) ["str"]) (.cmp .eq (.var 0) (.var 1))))
  .nil)
  .nil)
  (.cons (.ret (.and (.isi (.var 0) ["int"]) (.and (.not (.isi (.var 0) ["bool"])) (.cmp .eq (.var 0) (.var 1)))))
  .nil)))⟩
def E_law_alike : DefE := ⟨"_law_alike", ⟨(Str.ofString "_law_alike", none), Str.ofString "_law_alike", Str.ofString "_law_alike", defArgs (tp 27), defBody (tp 27), defScope (tp 27), [], []⟩, N_law_alike, F_law_alike⟩
def N_law_pipe : List String := ["_law_five_here"]
def F_law_pipe : Def := ⟨1, 1, (.cons (.ret (.make false "Pipe" (.cons (.blt (.list false) (.cons (.sub (.var 0) (.lit (.int 0))) .nil)) (.cons (.blt (.list false) (.cons (.sub (.var 0) (.lit (.int 1))) .nil)) (.cons (.blt (.list false) (.cons (.sub (.var 0) (.lit (.int 2))) .nil)) (.cons (.blt (.list false) (.cons (.sub (.var 0) (.lit (.int 3))) .nil)) (.cons (.sub (.var 0) (.lit (.int 4))) .nil)))))))
  .nil)⟩
def E_law_pipe : DefE := ⟨"_law_pipe", ⟨(Str.ofString "_law_pipe", none), Str.ofString "_law_pipe", Str.ofString "_law_pipe", defArgs (tp 28), defBody (tp 28), defScope (tp 28), [], []⟩, N_law_pipe, F_law_pipe⟩
def N_law_begun : List String := ["_law_script", "_law_sizes", "_law_first", "_law_wares_here", "_law_five_here"]
def F_law_begun : Def := ⟨2, 5, (.cons (.asg (.name 2) (.call true "_law_at" (.cons (.var 0) (.cons (.lit (.int 0)) .nil))))
  (.cons (.asg (.name 3) (.call true "_law_wares" (.cons (.var 2) .nil)))
  (.cons (.asg (.name 4) (.call true "_law_five" (.cons (.var 2) (.cons (.var 3) (.cons (.sub (.var 1) (.bin .mod (.call true "_law_mix" (.cons (.var 2) (.cons (.lit (.int 15)) .nil))) (.blt .len (.cons (.var 1) .nil)))) .nil)))))
  (.cons (.ret (.lst false (.cons (.var 3) (.cons (.var 4) (.cons (.call true "_law_fill" (.cons (.var 4) (.cons (.call true "_law_at" (.cons (.var 0) (.cons (.lit (.int 1)) .nil))) (.cons (.var 3) .nil)))) .nil)))))
  .nil))))⟩
def E_law_begun : DefE := ⟨"_law_begun", ⟨(Str.ofString "_law_begun", none), Str.ofString "_law_begun", Str.ofString "_law_begun", defArgs (tp 29), defBody (tp 29), defScope (tp 29), [], []⟩, N_law_begun, F_law_begun⟩
def N_law_way : List String := ["_law_five_here", "_law_cell", "_law_k", "_law_wares_here", "_law_i", "_law_j", "_law_ware", "_law_volume", "_law_pig"]
def F_law_way : Def := ⟨4, 9, (.cons (.asg (.tup (.cons (.name 4) (.cons (.name 5) (.cons (.name 6) (.cons (.name 7) (.cons (.name 8) .nil)))))) (.call true "_law_push" (.cons (.var 0) (.cons (.var 1) (.cons (.var 2) (.cons (.var 3) .nil))))))
  (.cons (.ret (.lst false (.cons (.blt .sum (.cons (.slc false (.sub (.var 0) (.lit (.int 0))) .no (.so (.var 4))) .nil)) (.cons (.blt .sum (.cons (.slc false (.sub (.var 0) (.lit (.int 0))) .no (.so (.var 5))) .nil)) (.cons (.var 6) (.cons (.var 7) (.cons (.var 8) (.cons (.var 4) (.cons (.var 5) .nil)))))))))
  .nil))⟩
def E_law_way : DefE := ⟨"_law_way", ⟨(Str.ofString "_law_way", none), Str.ofString "_law_way", Str.ofString "_law_way", defArgs (tp 30), defBody (tp 30), defScope (tp 30), [], []⟩, N_law_way, F_law_way⟩
def N_law_joined : List String := ["_law_pairs", "_law_rows", "_law_ware", "_law_volume"]
def F_law_joined : Def := ⟨1, 4, (.cons (.asg (.name 1) (.lst true .nil))
  (.cons (.for_ (.tup (.cons (.name 2) (.cons (.name 3) .nil))) (.ex (.var 0))
  (.cons (.ite (.and (.cmp .gt (.blt .len (.cons (.var 1) .nil)) (.lit (.int 0))) (.cmp .eq (.sub (.sub (.var 1) (.neg (.lit (.int 1)))) (.lit (.int 0))) (.var 2)))
  (.cons (.asg (.sub (.var 1) (.neg (.lit (.int 1)))) (.tup (.cons (.var 2) (.cons (.bin .add (.sub (.sub (.var 1) (.neg (.lit (.int 1)))) (.lit (.int 1))) (.var 3)) .nil))))
  .nil)
  (.cons (.expr (.bm "append" false (.var 1) (.cons (.tup (.cons (.var 2) (.cons (.var 3) .nil))) .nil)))
  .nil))
  .nil))
  (.cons (.ret (.var 1))
  .nil)))⟩
def E_law_joined : DefE := ⟨"_law_joined", ⟨(Str.ofString "_law_joined", none), Str.ofString "_law_joined", Str.ofString "_law_joined", defArgs (tp 31), defBody (tp 31), defScope (tp 31), [], []⟩, N_law_joined, F_law_joined⟩
def N_law_stands : List String := ["_law_content", "_law_five_here", "_law_rows", "_law_due", "_law_place", "_law_ware", "_law_volume", "_law_spot", "_law_gave"]
def F_law_stands : Def := ⟨3, 9, (.cons (.ite (.or (.not (.call true "_law_alike" (.cons (.call true "stretches" (.cons (.var 0) .nil)) (.cons (.var 2) .nil)))) (.not (.call true "_law_alike" (.cons (.call true "pigs" (.cons (.var 0) .nil)) (.cons (.lst false .nil) .nil)))))
  (.cons (.ret (.lit (.bl false)))
  .nil)
  .nil)
  (.cons (.asg (.name 3) (.lst true .nil))
  (.cons (.asg (.name 4) (.lit (.int 0)))
  (.cons (.for_ (.tup (.cons (.name 5) (.cons (.name 6) .nil))) (.ex (.var 2))
  (.cons (.ite (.cmp .gt (.var 4) (.lit (.int 0)))
  (.cons (.expr (.bm "append" false (.var 3) (.cons (.tup (.cons (.var 4) (.cons (.var 4) .nil))) .nil)))
  .nil)
  .nil)
  (.cons (.for_ (.name 7) (.ex (.lst false (.cons (.var 4) (.cons (.bin .add (.var 4) (.bin .fdiv (.var 6) (.lit (.int 2)))) (.cons (.bin .sub (.bin .add (.var 4) (.var 6)) (.lit (.int 1))) .nil)))))
  (.cons (.ite (.not (.call true "_law_alike" (.cons (.call true "ware_at" (.cons (.var 0) (.cons (.var 7) .nil))) (.cons (.var 5) .nil))))
  (.cons (.ret (.lit (.bl false)))
  .nil)
  .nil)
  .nil))
  (.cons (.asg (.name 4) (.bin .add (.var 4) (.var 6)))
  .nil))))
  (.cons (.asg (.name 8) (.lst false (.cons (.att (.att (.var 0) "pipe") "rooms") (.cons (.att (.att (.var 0) "pipe") "table") (.cons (.att (.att (.var 0) "pipe") "thick") (.cons (.att (.att (.var 0) "pipe") "apart") (.cons (.att (.att (.var 0) "pipe") "pig") .nil)))))))
  (.cons (.ret (.and (.call true "_law_alike" (.cons (.call true "meetings" (.cons (.var 0) .nil)) (.cons (.var 3) .nil))) (.cmp .eq (.var 8) (.var 1))))
  .nil))))))⟩
def E_law_stands : DefE := ⟨"_law_stands", ⟨(Str.ofString "_law_stands", none), Str.ofString "_law_stands", Str.ofString "_law_stands", defArgs (tp 32), defBody (tp 32), defScope (tp 32), [], []⟩, N_law_stands, F_law_stands⟩
def N_law : List String := ["_law_script", "_law_wares_here", "_law_five_here", "_law_fill_here", "_law_pipe_here", "_law_handed", "_law_content", "_law_rows", "_law_part"]
def F_law : Def := ⟨1, 9, (.cons (.asg (.tup (.cons (.name 1) (.cons (.name 2) (.cons (.name 3) .nil)))) (.call true "_law_begun" (.cons (.var 0) (.cons (.lst false (.cons (.lit (.int 6)) (.cons (.lit (.int 30)) (.cons (.lit (.int 400000)) .nil)))) .nil))))
  (.cons (.asg (.name 4) (.call false "_law_pipe" (.cons (.var 2) .nil)))
  (.cons (.asg (.name 5) (.blt (.list true) (.cons (.var 3) .nil)))
  (.cons (.asg (.name 6) (.frz (.make false "Content" (.cons (.var 4) (.cons (.var 5) .nil)))))
  (.cons (.asg (.name 7) (.call true "_law_joined" (.cons (.var 3) .nil)))
  (.cons (.ite (.or (.cmp .ne (.var 5) (.var 3)) (.not (.call true "_law_stands" (.cons (.var 6) (.cons (.var 2) (.cons (.var 7) .nil))))))
  (.cons (.ret (.lit (.bl false)))
  .nil)
  .nil)
  (.cons (.expr (.bm "clear" false (.var 5) .nil))
  (.cons (.for_ (.name 8) (.ex (.lst false (.cons (.att (.var 4) "rooms") (.cons (.att (.var 4) "table") (.cons (.att (.var 4) "thick") (.cons (.att (.var 4) "apart") (.cons (.call false "stretches" (.cons (.var 6) .nil)) (.cons (.call false "meetings" (.cons (.var 6) .nil)) (.cons (.call false "pigs" (.cons (.var 6) .nil)) .nil)))))))))
  (.cons (.expr (.bm "append" false (.var 8) (.cons (.tup (.cons (.lit (.int 0)) (.cons (.lit (.int 0)) .nil))) .nil)))
  .nil))
  (.cons (.ret (.call true "_law_stands" (.cons (.var 6) (.cons (.var 2) (.cons (.var 7) .nil)))))
  .nil)))))))))⟩
def E_law : DefE := ⟨"law", ⟨(Str.ofString "law", none), Str.ofString "law", Str.ofString "law", defArgs (tp 33), defBody (tp 33), defScope (tp 33), [], []⟩, N_law, F_law⟩
def T : Tbl := { defs := [E_Pipe___init__, E_place_of, E_are_apart, E_joined_rows, E_rows_between, E_inner_places, E_end_place, E_first_apart, E_Content___init__, E_stretches, E_meetings, E_pigs, E_ware_at, E_law_mix, E_law_at, E_law_wares, E_law_five, E_law_apart, E_law_fill, E_law_push, E_law_alike, E_law_pipe, E_law_begun, E_law_way, E_law_joined, E_law_stands, E_law], fns := ["place_of", "are_apart", "joined_rows", "rows_between", "inner_places", "end_place", "first_apart", "stretches", "meetings", "pigs", "ware_at", "_law_mix", "_law_at", "_law_wares", "_law_five", "_law_apart", "_law_fill", "_law_push", "_law_alike", "_law_pipe", "_law_begun", "_law_way", "_law_joined", "_law_stands", "law"], cls := ["Pipe", "Content"], cs := ["Pipe", "Content"], mts := [], bts := ["abs", "all", "int", "isinstance", "len", "list", "max", "min", "range", "sum", "zip"], tys := ["bool", "int", "list", "str", "tuple"], isa := [("NoneType", "bool", false), ("NoneType", "int", false), ("NoneType", "list", false), ("NoneType", "str", false), ("NoneType", "tuple", false), ("bool", "bool", true), ("bool", "int", true), ("bool", "list", false), ("bool", "str", false), ("bool", "tuple", false), ("int", "bool", false), ("int", "int", true), ("int", "list", false), ("int", "str", false), ("int", "tuple", false), ("str", "bool", false), ("str", "int", false), ("str", "list", false), ("str", "str", true), ("str", "tuple", false), ("tuple", "bool", false), ("tuple", "int", false), ("tuple", "list", false), ("tuple", "str", false), ("tuple", "tuple", true), ("list", "bool", false), ("list", "int", false), ("list", "list", true), ("list", "str", false), ("list", "tuple", false), ("Pipe", "bool", false), ("Pipe", "int", false), ("Pipe", "list", false), ("Pipe", "str", false), ("Pipe", "tuple", false), ("Content", "bool", false), ("Content", "int", false), ("Content", "list", false), ("Content", "str", false), ("Content", "tuple", false), ("PipeError", "bool", false), ("PipeError", "int", false), ("PipeError", "list", false), ("PipeError", "str", false), ("PipeError", "tuple", false), ("BadFill", "bool", false), ("BadFill", "int", false), ("BadFill", "list", false), ("BadFill", "str", false), ("BadFill", "tuple", false), ("Touch", "bool", false), ("Touch", "int", false), ("Touch", "list", false), ("Touch", "str", false), ("Touch", "tuple", false)], fld := [("Pipe", ["rooms", "table", "thick", "apart", "pig"]), ("Content", ["pipe", "row_kept", "sinces_kept", "pigs_kept"])], xs := [("PipeError", []), ("BadFill", []), ("Touch", ["pair"])], xd := [X_Touch], sub := [("PipeError", "PipeError"), ("BadFill", "PipeError"), ("BadFill", "BadFill"), ("Touch", "PipeError"), ("Touch", "Touch")] }
theorem okT : T.okT = true := by decide +kernel
theorem okD : T.okD = true := by decide +kernel
end E1.K10

set_option maxHeartbeats 2000000
namespace E1.K10
open PySem (Str)
open E1 E1.Com E1.Fi
def deep : Nat := 30
theorem fn_law : T.prog.fn "law" = some F_law := by rfl
theorem fn_stands : T.prog.fn "_law_stands" = some F_law_stands := by rfl
theorem hF : FHas T.prog := {
  mix := by rfl, wares := by rfl, five := by rfl, pinit := by rfl, place := by rfl, apart := by rfl, joined := by rfl, between := by rfl, inner := by rfl, endp := by rfl, first := by rfl, cinit := by rfl, str := by rfl, meet := by rfl, pig := by rfl
  at_ := by rfl, lapart := by rfl, fill := by rfl, pipe := by rfl, begun := by rfl, ljoined := by rfl, fP := by rfl, fC := by rfl, fB := by rfl, fT := by rfl }
theorem hW : T.prog.fn "ware_at" = some Fi.F_ware_at := by rfl
theorem hA : AHas T.prog := ⟨by rfl, by
  intro k hk t ht
  simp only [List.mem_cons, List.not_mem_nil, or_false] at hk ht
  rcases hk with rfl | rfl | rfl | rfl <;> rcases ht with rfl | rfl | rfl | rfl | rfl <;> rfl⟩
def sB : Sts := loop1 F_law_stands
def inB : Sts := match sB with
  | .cons _ (.cons (.for_ _ _ b) _) => b
  | _ => .nil
theorem spot_turn (n : Nat) {rooms : List Int} {tb th ap : List D} {pig : D} (ho : PipeOk rooms tb th ap pig) (five rowsD : D) (pre : List (Str × Int)) (r : Str × Int) (post : List (Str × Int)) (hl : (pre ++ r :: post).length < 1000) (hv : ∀ q ∈ pre, 1 ≤ q.2) (k : Nat) (pl : Int) (vol : Option D) (p : Int) (h1 : volS pre ≤ p) (h2 : p < volS pre + r.2) (g : Option D) (S : Store) :
    exs (envOf T.prog (n + 2)) inB [some (CT rooms tb th ap pig (pre ++ r :: post)), some five, some rowsD, some (.ref k), some (.int pl), some (.str r.1), vol, some (.int p), g] S = .nx [some (CT rooms tb th ap pig (pre ++ r :: post)), some five, some rowsD, some (.ref k), some (.int pl), some (.str r.1), vol, some (.int p), g] S := by
  have fw := frz_ware_at hW hF.between n ho pre r post hl hv p h1 h2 S
  have fa := frz_alike hA 0 (n + 1) (.str r.1) rfl S
  show exs _ (.cons (.ite (.not _) _ .nil) .nil) _ _ = _
  rw [exs_cons, ex_ite (p := false) (S1 := S) (by simp only [ev, evs, evo, evc, asg, asgs, exs_cons, exs_nil, ex, bind_ok, bind_exc, st_ok, st_exc, bind_nx, bind_ret, bind_brk, bind_cnt, bind_xc, fin_ret, fin_nx, fin_exc, asE_some, asB_ok, bop_add, bop_sub, bop_mul, bop_fdiv, bop_mod, cop_lt, cop_le, cop_gt, cop_ge, cop_eq, cop_ne, cop_eqb, cop_neb, blt_abs, blt_lenT, blt_lenL, flat, lLINE0, lLINE1, lLINE2, lLINE3, lLINE4, lLINE5, lLINE6, lLINE7, lLINE8, alloc, sub_fl, sub_tp, seqOf_tup, seqOf_fl, ↓ev_int, ↓ev_bl, ↓ev_str, ↓ev_non, List.getElem?_cons_zero, List.getElem?_cons_succ, List.set_cons_zero, List.set_cons_succ, List.length_cons, List.length_nil, List.map_cons, List.map_nil, List.replicate, List.nil_append, List.cons_append, List.append_nil, if_true, if_false, decide_true, decide_false, Bool.not_true, Bool.not_false, Bool.false_eq_true, Nat.reduceLT, Nat.reduceAdd, Nat.reduceSub, Nat.reduceLeDiff, Nat.zero_add, Nat.add_zero, Nat.sub_zero, Nat.lt_add_one, Nat.zero_lt_succ, and_true, and_self, true_and, ite_true, ite_false, fw, fa]), if_neg (by simp), exs_nil, bind_nx, exs_nil]
theorem stands_loop (n : Nat) {rooms : List Int} {tb th ap : List D} {pig : D} (ho : PipeOk rooms tb th ap pig) (five rowsD : D) (S : Store) : ∀ (rest pre : List (Str × Int)) (acc : List Int) (a b c : Option D), (∀ q ∈ pre ++ rest, 1 ≤ q.2) → (pre ++ rest).length < 500 → acc.length ≤ pre.length →
    ∃ a' b' c', forL (fun d σ S => asg (envOf T.prog (n + 2)) (.tup (.cons (.name 5) (.cons (.name 6) .nil))) d σ S) (fun σ S => exs (envOf T.prog (n + 2)) sB σ S) none (rest.map rowS) [some (CT rooms tb th ap pig (pre ++ rest)), some five, some rowsD, some (.ref S.length), some (.int (volS pre)), a, b, c, none] (S ++ [.lst (acc.map prD)]) =
      .nx [some (CT rooms tb th ap pig (pre ++ rest)), some five, some rowsD, some (.ref S.length), some (.int (volS (pre ++ rest))), a', b', c', none] (S ++ [.lst ((acc ++ innerA (volS pre) rest).map prD)])
  | [], pre, acc, a, b, c, _, _, _ => ⟨a, b, c, by
      rw [List.append_nil, List.map_nil, forL_nil (ck := none) trivial, innerA, List.append_nil]⟩
  | r :: rest, pre, acc, a, b, c, hv, hl, hacc => by
    have hr : 1 ≤ r.2 := hv r (by simp)
    have hl' : (pre ++ r :: rest).length < 1000 := by omega
    have hpv : ∀ q ∈ pre, 1 ≤ q.2 := fun q hq => hv q (by simp [hq])
    have e0 : pre ++ r :: rest = (pre ++ [r]) ++ rest := by simp
    have hacc2 : (acc ++ (if 0 < volS pre then [volS pre] else [])).length ≤ (pre ++ [r]).length := by
      rw [List.length_append, List.length_append]; split <;> simp <;> omega
    obtain ⟨a', b', c', ih⟩ := stands_loop n ho five rowsD S rest (pre ++ [r]) (acc ++ (if 0 < volS pre then [volS pre] else [])) (some (.str r.1)) (some (.int r.2)) (some (.int (volS pre + r.2 - 1))) (by rw [← e0]; exact hv) (by rw [← e0]; exact hl) hacc2
    rw [← e0] at ih
    refine ⟨a', b', c', ?_⟩
    have hlen : pre.length < 500 := by rw [List.length_append] at hl; omega
    have body : exs (envOf T.prog (n + 2)) sB [some (CT rooms tb th ap pig (pre ++ r :: rest)), some five, some rowsD, some (.ref S.length), some (.int (volS pre)), some (.str r.1), some (.int r.2), c, none] (S ++ [.lst (acc.map prD)]) =
        .nx [some (CT rooms tb th ap pig (pre ++ r :: rest)), some five, some rowsD, some (.ref S.length), some (.int (volS (pre ++ [r]))), some (.str r.1), some (.int r.2), some (.int (volS pre + r.2 - 1)), none] (S ++ [.lst ((acc ++ (if 0 < volS pre then [volS pre] else [])).map prD)]) := by
      have s1 : exs (envOf T.prog (n + 2)) sB [some (CT rooms tb th ap pig (pre ++ r :: rest)), some five, some rowsD, some (.ref S.length), some (.int (volS pre)), some (.str r.1), some (.int r.2), c, none] (S ++ [.lst (acc.map prD)]) =
          exs (envOf T.prog (n + 2)) (dropS 1 sB) [some (CT rooms tb th ap pig (pre ++ r :: rest)), some five, some rowsD, some (.ref S.length), some (.int (volS pre)), some (.str r.1), some (.int r.2), c, none] (S ++ [.lst ((acc ++ (if 0 < volS pre then [volS pre] else [])).map prD)]) := by
        refine exs_nx ?_
        rw [ex_ite (p := decide (0 < volS pre)) (S1 := S ++ [.lst (acc.map prD)]) (by simp only [ev, evs, evo, evc, asg, asgs, exs_cons, exs_nil, ex, bind_ok, bind_exc, st_ok, st_exc, bind_nx, bind_ret, bind_brk, bind_cnt, bind_xc, fin_ret, fin_nx, fin_exc, asE_some, asB_ok, bop_add, bop_sub, bop_mul, bop_fdiv, bop_mod, cop_lt, cop_le, cop_gt, cop_ge, cop_eq, cop_ne, cop_eqb, cop_neb, blt_abs, blt_lenT, blt_lenL, flat, lLINE0, lLINE1, lLINE2, lLINE3, lLINE4, lLINE5, lLINE6, lLINE7, lLINE8, alloc, sub_fl, sub_tp, seqOf_tup, seqOf_fl, ↓ev_int, ↓ev_bl, ↓ev_str, ↓ev_non, List.getElem?_cons_zero, List.getElem?_cons_succ, List.set_cons_zero, List.set_cons_succ, List.length_cons, List.length_nil, List.map_cons, List.map_nil, List.replicate, List.nil_append, List.cons_append, List.append_nil, if_true, if_false, decide_true, decide_false, Bool.not_true, Bool.not_false, Bool.false_eq_true, Nat.reduceLT, Nat.reduceAdd, Nat.reduceSub, Nat.reduceLeDiff, Nat.zero_add, Nat.add_zero, Nat.sub_zero, Nat.lt_add_one, Nat.zero_lt_succ, and_true, and_self, true_and, ite_true, ite_false])]
        by_cases h0 : 0 < volS pre
        · rw [decide_eq_true h0, if_pos rfl, if_pos h0]
          have ga : (S ++ [Cell.lst (acc.map prD)])[S.length]? = some (.lst (acc.map prD)) := last_get
          have happ := ev_append (C := envOf T.prog (n + 2)) (b := false) (a := .var 3) (e := .tup (.cons (.var 4) (.cons (.var 4) .nil))) (σ := [some (CT rooms tb th ap pig (pre ++ r :: rest)), some five, some rowsD, some (.ref S.length), some (.int (volS pre)), some (.str r.1), some (.int r.2), c, none]) (S := S ++ [.lst (acc.map prD)]) (i := S.length) (xs := acc.map prD) (y := prD (volS pre)) (by simp only [ev, evs, evo, evc, asg, asgs, exs_cons, exs_nil, ex, bind_ok, bind_exc, st_ok, st_exc, bind_nx, bind_ret, bind_brk, bind_cnt, bind_xc, fin_ret, fin_nx, fin_exc, asE_some, asB_ok, bop_add, bop_sub, bop_mul, bop_fdiv, bop_mod, cop_lt, cop_le, cop_gt, cop_ge, cop_eq, cop_ne, cop_eqb, cop_neb, blt_abs, blt_lenT, blt_lenL, flat, lLINE0, lLINE1, lLINE2, lLINE3, lLINE4, lLINE5, lLINE6, lLINE7, lLINE8, alloc, sub_fl, sub_tp, seqOf_tup, seqOf_fl, ↓ev_int, ↓ev_bl, ↓ev_str, ↓ev_non, List.getElem?_cons_zero, List.getElem?_cons_succ, List.set_cons_zero, List.set_cons_succ, List.length_cons, List.length_nil, List.map_cons, List.map_nil, List.replicate, List.nil_append, List.cons_append, List.append_nil, if_true, if_false, decide_true, decide_false, Bool.not_true, Bool.not_false, Bool.false_eq_true, Nat.reduceLT, Nat.reduceAdd, Nat.reduceSub, Nat.reduceLeDiff, Nat.zero_add, Nat.add_zero, Nat.sub_zero, Nat.lt_add_one, Nat.zero_lt_succ, and_true, and_self, true_and, ite_true, ite_false]) (by simp only [ev, evs, evo, evc, asg, asgs, exs_cons, exs_nil, ex, bind_ok, bind_exc, st_ok, st_exc, bind_nx, bind_ret, bind_brk, bind_cnt, bind_xc, fin_ret, fin_nx, fin_exc, asE_some, asB_ok, bop_add, bop_sub, bop_mul, bop_fdiv, bop_mod, cop_lt, cop_le, cop_gt, cop_ge, cop_eq, cop_ne, cop_eqb, cop_neb, blt_abs, blt_lenT, blt_lenL, flat, lLINE0, lLINE1, lLINE2, lLINE3, lLINE4, lLINE5, lLINE6, lLINE7, lLINE8, alloc, sub_fl, sub_tp, seqOf_tup, seqOf_fl, ↓ev_int, ↓ev_bl, ↓ev_str, ↓ev_non, List.getElem?_cons_zero, List.getElem?_cons_succ, List.set_cons_zero, List.set_cons_succ, List.length_cons, List.length_nil, List.map_cons, List.map_nil, List.replicate, List.nil_append, List.cons_append, List.append_nil, if_true, if_false, decide_true, decide_false, Bool.not_true, Bool.not_false, Bool.false_eq_true, Nat.reduceLT, Nat.reduceAdd, Nat.reduceSub, Nat.reduceLeDiff, Nat.zero_add, Nat.add_zero, Nat.sub_zero, Nat.lt_add_one, Nat.zero_lt_succ, and_true, and_self, true_and, ite_true, ite_false]; rfl) ga (by rw [List.length_map, LINE_num]; omega)
          rw [last_set] at happ
          rw [exs_cons, ex, happ, st_ok, bind_nx, exs_nil, List.map_append]
          rfl
        · rw [decide_eq_false h0, if_neg (by simp), if_neg h0, List.append_nil, exs_nil]
      rw [s1]
      generalize hU : (S ++ [Cell.lst ((acc ++ (if 0 < volS pre then [volS pre] else [])).map prD)]) = U
      have hd : r.2 / 2 < r.2 := by omega
      have hd0 : 0 ≤ r.2 / 2 := by omega
      have d2 : divOk 2 := ⟨by decide, by decide⟩
      have it : evi (envOf T.prog (n + 2)) (.ex (.lst false (.cons (.var 4) (.cons (.bin .add (.var 4) (.bin .fdiv (.var 6) (.lit (.int 2)))) (.cons (.bin .sub (.bin .add (.var 4) (.var 6)) (.lit (.int 1))) .nil))))) [some (CT rooms tb th ap pig (pre ++ r :: rest)), some five, some rowsD, some (.ref S.length), some (.int (volS pre)), some (.str r.1), some (.int r.2), c, none] U =
          .ok ([.int (volS pre), .int (volS pre + r.2 / 2), .int (volS pre + r.2 - 1)], none) U := by
        rw [evi]
        simp only [ev, evs, evo, evc, asg, asgs, exs_cons, exs_nil, ex, bind_ok, bind_exc, st_ok, st_exc, bind_nx, bind_ret, bind_brk, bind_cnt, bind_xc, fin_ret, fin_nx, fin_exc, asE_some, asB_ok, bop_add, bop_sub, bop_mul, bop_fdiv, bop_mod, cop_lt, cop_le, cop_gt, cop_ge, cop_eq, cop_ne, cop_eqb, cop_neb, blt_abs, blt_lenT, blt_lenL, flat, lLINE0, lLINE1, lLINE2, lLINE3, lLINE4, lLINE5, lLINE6, lLINE7, lLINE8, alloc, sub_fl, sub_tp, seqOf_tup, seqOf_fl, ↓ev_int, ↓ev_bl, ↓ev_str, ↓ev_non, List.getElem?_cons_zero, List.getElem?_cons_succ, List.set_cons_zero, List.set_cons_succ, List.length_cons, List.length_nil, List.map_cons, List.map_nil, List.replicate, List.nil_append, List.cons_append, List.append_nil, if_true, if_false, decide_true, decide_false, Bool.not_true, Bool.not_false, Bool.false_eq_true, Nat.reduceLT, Nat.reduceAdd, Nat.reduceSub, Nat.reduceLeDiff, Nat.zero_add, Nat.add_zero, Nat.sub_zero, Nat.lt_add_one, Nat.zero_lt_succ, and_true, and_self, true_and, ite_true, ite_false, d2]
        rfl
      have sp : ∀ p, volS pre ≤ p → p < volS pre + r.2 → ∀ c, forL (fun d σ S => asg (envOf T.prog (n + 2)) (.name 7) d σ S) (fun σ S => exs (envOf T.prog (n + 2)) inB σ S) none [.int p] [some (CT rooms tb th ap pig (pre ++ r :: rest)), some five, some rowsD, some (.ref S.length), some (.int (volS pre)), some (.str r.1), some (.int r.2), c, none] U = .nx [some (CT rooms tb th ap pig (pre ++ r :: rest)), some five, some rowsD, some (.ref S.length), some (.int (volS pre)), some (.str r.1), some (.int r.2), some (.int p), none] U := fun p h1 h2 c => by
        rw [forL_nx (ck := none) trivial (σ1 := [some (CT rooms tb th ap pig (pre ++ r :: rest)), some five, some rowsD, some (.ref S.length), some (.int (volS pre)), some (.str r.1), some (.int r.2), some (.int p), none]) (S1 := U) (by simp only [ev, evs, evo, evc, asg, asgs, exs_cons, exs_nil, ex, bind_ok, bind_exc, st_ok, st_exc, bind_nx, bind_ret, bind_brk, bind_cnt, bind_xc, fin_ret, fin_nx, fin_exc, asE_some, asB_ok, bop_add, bop_sub, bop_mul, bop_fdiv, bop_mod, cop_lt, cop_le, cop_gt, cop_ge, cop_eq, cop_ne, cop_eqb, cop_neb, blt_abs, blt_lenT, blt_lenL, flat, lLINE0, lLINE1, lLINE2, lLINE3, lLINE4, lLINE5, lLINE6, lLINE7, lLINE8, alloc, sub_fl, sub_tp, seqOf_tup, seqOf_fl, ↓ev_int, ↓ev_bl, ↓ev_str, ↓ev_non, List.getElem?_cons_zero, List.getElem?_cons_succ, List.set_cons_zero, List.set_cons_succ, List.length_cons, List.length_nil, List.map_cons, List.map_nil, List.replicate, List.nil_append, List.cons_append, List.append_nil, if_true, if_false, decide_true, decide_false, Bool.not_true, Bool.not_false, Bool.false_eq_true, Nat.reduceLT, Nat.reduceAdd, Nat.reduceSub, Nat.reduceLeDiff, Nat.zero_add, Nat.add_zero, Nat.sub_zero, Nat.lt_add_one, Nat.zero_lt_succ, and_true, and_self, true_and, ite_true, ite_false]) (spot_turn n ho five rowsD pre r rest hl' hpv S.length (volS pre) _ p h1 h2 none U), forL_nil (ck := none) trivial]
      have three : forL (fun d σ S => asg (envOf T.prog (n + 2)) (.name 7) d σ S) (fun σ S => exs (envOf T.prog (n + 2)) inB σ S) none [.int (volS pre), .int (volS pre + r.2 / 2), .int (volS pre + r.2 - 1)] [some (CT rooms tb th ap pig (pre ++ r :: rest)), some five, some rowsD, some (.ref S.length), some (.int (volS pre)), some (.str r.1), some (.int r.2), c, none] U =
          .nx [some (CT rooms tb th ap pig (pre ++ r :: rest)), some five, some rowsD, some (.ref S.length), some (.int (volS pre)), some (.str r.1), some (.int r.2), some (.int (volS pre + r.2 - 1)), none] U := by
        rw [forL_nx (ck := none) trivial (σ1 := [some (CT rooms tb th ap pig (pre ++ r :: rest)), some five, some rowsD, some (.ref S.length), some (.int (volS pre)), some (.str r.1), some (.int r.2), some (.int (volS pre)), none]) (S1 := U) (by simp only [ev, evs, evo, evc, asg, asgs, exs_cons, exs_nil, ex, bind_ok, bind_exc, st_ok, st_exc, bind_nx, bind_ret, bind_brk, bind_cnt, bind_xc, fin_ret, fin_nx, fin_exc, asE_some, asB_ok, bop_add, bop_sub, bop_mul, bop_fdiv, bop_mod, cop_lt, cop_le, cop_gt, cop_ge, cop_eq, cop_ne, cop_eqb, cop_neb, blt_abs, blt_lenT, blt_lenL, flat, lLINE0, lLINE1, lLINE2, lLINE3, lLINE4, lLINE5, lLINE6, lLINE7, lLINE8, alloc, sub_fl, sub_tp, seqOf_tup, seqOf_fl, ↓ev_int, ↓ev_bl, ↓ev_str, ↓ev_non, List.getElem?_cons_zero, List.getElem?_cons_succ, List.set_cons_zero, List.set_cons_succ, List.length_cons, List.length_nil, List.map_cons, List.map_nil, List.replicate, List.nil_append, List.cons_append, List.append_nil, if_true, if_false, decide_true, decide_false, Bool.not_true, Bool.not_false, Bool.false_eq_true, Nat.reduceLT, Nat.reduceAdd, Nat.reduceSub, Nat.reduceLeDiff, Nat.zero_add, Nat.add_zero, Nat.sub_zero, Nat.lt_add_one, Nat.zero_lt_succ, and_true, and_self, true_and, ite_true, ite_false]) (spot_turn n ho five rowsD pre r rest hl' hpv S.length (volS pre) _ (volS pre) (by omega) (by omega) none U),
          forL_nx (ck := none) trivial (σ1 := [some (CT rooms tb th ap pig (pre ++ r :: rest)), some five, some rowsD, some (.ref S.length), some (.int (volS pre)), some (.str r.1), some (.int r.2), some (.int (volS pre + r.2 / 2)), none]) (S1 := U) (by simp only [ev, evs, evo, evc, asg, asgs, exs_cons, exs_nil, ex, bind_ok, bind_exc, st_ok, st_exc, bind_nx, bind_ret, bind_brk, bind_cnt, bind_xc, fin_ret, fin_nx, fin_exc, asE_some, asB_ok, bop_add, bop_sub, bop_mul, bop_fdiv, bop_mod, cop_lt, cop_le, cop_gt, cop_ge, cop_eq, cop_ne, cop_eqb, cop_neb, blt_abs, blt_lenT, blt_lenL, flat, lLINE0, lLINE1, lLINE2, lLINE3, lLINE4, lLINE5, lLINE6, lLINE7, lLINE8, alloc, sub_fl, sub_tp, seqOf_tup, seqOf_fl, ↓ev_int, ↓ev_bl, ↓ev_str, ↓ev_non, List.getElem?_cons_zero, List.getElem?_cons_succ, List.set_cons_zero, List.set_cons_succ, List.length_cons, List.length_nil, List.map_cons, List.map_nil, List.replicate, List.nil_append, List.cons_append, List.append_nil, if_true, if_false, decide_true, decide_false, Bool.not_true, Bool.not_false, Bool.false_eq_true, Nat.reduceLT, Nat.reduceAdd, Nat.reduceSub, Nat.reduceLeDiff, Nat.zero_add, Nat.add_zero, Nat.sub_zero, Nat.lt_add_one, Nat.zero_lt_succ, and_true, and_self, true_and, ite_true, ite_false]) (spot_turn n ho five rowsD pre r rest hl' hpv S.length (volS pre) _ (volS pre + r.2 / 2) (by omega) (by omega) none U)]
        exact sp _ (by omega) (by omega) _
      refine (exs_nx (σ' := [some (CT rooms tb th ap pig (pre ++ r :: rest)), some five, some rowsD, some (.ref S.length), some (.int (volS pre)), some (.str r.1), some (.int r.2), some (.int (volS pre + r.2 - 1)), none]) (S' := U) ?_).trans ?_
      · rw [ex, it, st_ok]
        exact three
      · refine (exs_nx ?_).trans exs_nil
        rw [volS_append, volS_cons, volS_nil, Int.add_zero]
        simp only [ev, evs, evo, evc, asg, asgs, exs_cons, exs_nil, ex, bind_ok, bind_exc, st_ok, st_exc, bind_nx, bind_ret, bind_brk, bind_cnt, bind_xc, fin_ret, fin_nx, fin_exc, asE_some, asB_ok, bop_add, bop_sub, bop_mul, bop_fdiv, bop_mod, cop_lt, cop_le, cop_gt, cop_ge, cop_eq, cop_ne, cop_eqb, cop_neb, blt_abs, blt_lenT, blt_lenL, flat, lLINE0, lLINE1, lLINE2, lLINE3, lLINE4, lLINE5, lLINE6, lLINE7, lLINE8, alloc, sub_fl, sub_tp, seqOf_tup, seqOf_fl, ↓ev_int, ↓ev_bl, ↓ev_str, ↓ev_non, List.getElem?_cons_zero, List.getElem?_cons_succ, List.set_cons_zero, List.set_cons_succ, List.length_cons, List.length_nil, List.map_cons, List.map_nil, List.replicate, List.nil_append, List.cons_append, List.append_nil, if_true, if_false, decide_true, decide_false, Bool.not_true, Bool.not_false, Bool.false_eq_true, Nat.reduceLT, Nat.reduceAdd, Nat.reduceSub, Nat.reduceLeDiff, Nat.zero_add, Nat.add_zero, Nat.sub_zero, Nat.lt_add_one, Nat.zero_lt_succ, and_true, and_self, true_and, ite_true, ite_false]
    rw [List.map_cons, forL_nx (ck := none) trivial (σ1 := [some (CT rooms tb th ap pig (pre ++ r :: rest)), some five, some rowsD, some (.ref S.length), some (.int (volS pre)), some (.str r.1), some (.int r.2), c, none]) (S1 := S ++ [.lst (acc.map prD)]) (by unfold rowS; simp only [ev, evs, evo, evc, asg, asgs, exs_cons, exs_nil, ex, bind_ok, bind_exc, st_ok, st_exc, bind_nx, bind_ret, bind_brk, bind_cnt, bind_xc, fin_ret, fin_nx, fin_exc, asE_some, asB_ok, bop_add, bop_sub, bop_mul, bop_fdiv, bop_mod, cop_lt, cop_le, cop_gt, cop_ge, cop_eq, cop_ne, cop_eqb, cop_neb, blt_abs, blt_lenT, blt_lenL, flat, lLINE0, lLINE1, lLINE2, lLINE3, lLINE4, lLINE5, lLINE6, lLINE7, lLINE8, alloc, sub_fl, sub_tp, seqOf_tup, seqOf_fl, ↓ev_int, ↓ev_bl, ↓ev_str, ↓ev_non, List.getElem?_cons_zero, List.getElem?_cons_succ, List.set_cons_zero, List.set_cons_succ, List.length_cons, List.length_nil, List.map_cons, List.map_nil, List.replicate, List.nil_append, List.cons_append, List.append_nil, if_true, if_false, decide_true, decide_false, Bool.not_true, Bool.not_false, Bool.false_eq_true, Nat.reduceLT, Nat.reduceAdd, Nat.reduceSub, Nat.reduceLeDiff, Nat.zero_add, Nat.add_zero, Nat.sub_zero, Nat.lt_add_one, Nat.zero_lt_succ, and_true, and_self, true_and, ite_true, ite_false]) body, ih, innerA, List.append_assoc, volS_append (a := pre) (b := [r]), volS_cons (rows := []), volS_nil, Int.add_zero]
theorem call_stands (n : Nat) {ws : List Str} {rooms : List Int} {ps : List (Int × Int)} {th ap : List D} {pig : D} {fill : List (Str × Int)} (b : Begun ws rooms ps th ap pig fill) (rows : List (Str × Int)) (hv : ∀ q ∈ rows, 1 ≤ q.2) (hl : rows.length < 500) (S : Store) :
    call T.prog (n + 6) "_law_stands" [CT rooms (ps.map rowD) th ap pig rows, T5 rooms (ps.map rowD) th ap pig, .fl (rows.map rowS)] S = .ok (.bl true) (S ++ [.lst ((innerP rows).map prD)]) := by
  rw [call_fin fn_stands (n + 5) [CT rooms (ps.map rowD) th ap pig rows, T5 rooms (ps.map rowD) th ap pig, .fl (rows.map rowS)] S rfl (by decide)]
  have ho := b.ok
  have nC := CT.nr ho rows
  have fs : ∀ S, frzCall (envOf T.prog (n + 5)) "stretches" [CT rooms (ps.map rowD) th ap pig rows] S = .ok (.fl (rows.map rowS)) S := fun S => frz_boxed (call_str rooms (ps.map rowD) th ap pig rows hF (n + 4) (by omega) []) (by simp only [norefs, nC]; rfl) (norefs_rowS _)
  have fp : ∀ S, frzCall (envOf T.prog (n + 5)) "pigs" [CT rooms (ps.map rowD) th ap pig rows] S = .ok (.fl []) S := fun S => frz_boxed (call_pigs rooms (ps.map rowD) th ap pig rows hF (n + 4) []) (by simp only [norefs, nC]; rfl) rfl
  have fm : ∀ S, frzCall (envOf T.prog (n + 5)) "meetings" [CT rooms (ps.map rowD) th ap pig rows] S = .ok (.fl ((innerP rows).map prD)) S := fun S => frz_boxed (call_meet rooms (ps.map rowD) th ap pig rows hF (n + 3) (by omega) []) (by simp only [norefs, nC]; rfl) (norefs_pr _)
  have a1 : ∀ S, frzCall (envOf T.prog (n + 5)) "_law_alike" [.fl (rows.map rowS), .fl (rows.map rowS)] S = .ok (.bl true) S := fun S => frz_alike hA 2 (n + 2) _ (al_rowS rows (by omega)) S
  have a2 : ∀ S, frzCall (envOf T.prog (n + 5)) "_law_alike" [.fl [], .fl []] S = .ok (.bl true) S := fun S => frz_alike hA 2 (n + 2) (.fl []) rfl S
  have hin : (innerP rows).length ≤ 1000 := by have := innerA_len rows 0; unfold innerP; omega
  have a3 : ∀ S, frzCall (envOf T.prog (n + 5)) "_law_alike" [.fl ((innerP rows).map prD), .fl ((innerP rows).map prD)] S = .ok (.bl true) S := fun S => frz_alike hA 2 (n + 2) _ (al_pr _ hin) S
  obtain ⟨a', b', c', lp⟩ := stands_loop (n + 3) ho (T5 rooms (ps.map rowD) th ap pig) (.fl (rows.map rowS)) S rows [] [] none none none (by simpa using hv) (by simpa using hl) (by simp)
  rw [List.nil_append, volS_nil, List.nil_append] at lp
  show fin (exs (envOf T.prog (n + 5)) F_law_stands.body [some (CT rooms (ps.map rowD) th ap pig rows), some (T5 rooms (ps.map rowD) th ap pig), some (.fl (rows.map rowS)), none, none, none, none, none, none] S) = _
  have e1 : exs (envOf T.prog (n + 5)) F_law_stands.body [some (CT rooms (ps.map rowD) th ap pig rows), some (T5 rooms (ps.map rowD) th ap pig), some (.fl (rows.map rowS)), none, none, none, none, none, none] S = exs (envOf T.prog (n + 5)) (dropS 1 F_law_stands.body) [some (CT rooms (ps.map rowD) th ap pig rows), some (T5 rooms (ps.map rowD) th ap pig), some (.fl (rows.map rowS)), none, none, none, none, none, none] S := by
    refine exs_nx ?_
    rw [ex_ite (p := false) (S1 := S) (by
      rw [ev_or (p := false) (S1 := S) (by simp only [ev, evs, evo, evc, asg, asgs, exs_cons, exs_nil, ex, bind_ok, bind_exc, st_ok, st_exc, bind_nx, bind_ret, bind_brk, bind_cnt, bind_xc, fin_ret, fin_nx, fin_exc, asE_some, asB_ok, bop_add, bop_sub, bop_mul, bop_fdiv, bop_mod, cop_lt, cop_le, cop_gt, cop_ge, cop_eq, cop_ne, cop_eqb, cop_neb, blt_abs, blt_lenT, blt_lenL, flat, lLINE0, lLINE1, lLINE2, lLINE3, lLINE4, lLINE5, lLINE6, lLINE7, lLINE8, alloc, sub_fl, sub_tp, seqOf_tup, seqOf_fl, ↓ev_int, ↓ev_bl, ↓ev_str, ↓ev_non, List.getElem?_cons_zero, List.getElem?_cons_succ, List.set_cons_zero, List.set_cons_succ, List.length_cons, List.length_nil, List.map_cons, List.map_nil, List.replicate, List.nil_append, List.cons_append, List.append_nil, if_true, if_false, decide_true, decide_false, Bool.not_true, Bool.not_false, Bool.false_eq_true, Nat.reduceLT, Nat.reduceAdd, Nat.reduceSub, Nat.reduceLeDiff, Nat.zero_add, Nat.add_zero, Nat.sub_zero, Nat.lt_add_one, Nat.zero_lt_succ, and_true, and_self, true_and, ite_true, ite_false, fs, a1]), if_neg (by simp)]
      simp only [ev, evs, evo, evc, asg, asgs, exs_cons, exs_nil, ex, bind_ok, bind_exc, st_ok, st_exc, bind_nx, bind_ret, bind_brk, bind_cnt, bind_xc, fin_ret, fin_nx, fin_exc, asE_some, asB_ok, bop_add, bop_sub, bop_mul, bop_fdiv, bop_mod, cop_lt, cop_le, cop_gt, cop_ge, cop_eq, cop_ne, cop_eqb, cop_neb, blt_abs, blt_lenT, blt_lenL, flat, lLINE0, lLINE1, lLINE2, lLINE3, lLINE4, lLINE5, lLINE6, lLINE7, lLINE8, alloc, sub_fl, sub_tp, seqOf_tup, seqOf_fl, ↓ev_int, ↓ev_bl, ↓ev_str, ↓ev_non, List.getElem?_cons_zero, List.getElem?_cons_succ, List.set_cons_zero, List.set_cons_succ, List.length_cons, List.length_nil, List.map_cons, List.map_nil, List.replicate, List.nil_append, List.cons_append, List.append_nil, if_true, if_false, decide_true, decide_false, Bool.not_true, Bool.not_false, Bool.false_eq_true, Nat.reduceLT, Nat.reduceAdd, Nat.reduceSub, Nat.reduceLeDiff, Nat.zero_add, Nat.add_zero, Nat.sub_zero, Nat.lt_add_one, Nat.zero_lt_succ, and_true, and_self, true_and, ite_true, ite_false, fp, a2]), if_neg (by simp), exs_nil]
  have e2 : exs (envOf T.prog (n + 5)) (dropS 1 F_law_stands.body) [some (CT rooms (ps.map rowD) th ap pig rows), some (T5 rooms (ps.map rowD) th ap pig), some (.fl (rows.map rowS)), none, none, none, none, none, none] S = exs (envOf T.prog (n + 5)) (dropS 3 F_law_stands.body) [some (CT rooms (ps.map rowD) th ap pig rows), some (T5 rooms (ps.map rowD) th ap pig), some (.fl (rows.map rowS)), some (.ref S.length), some (.int 0), none, none, none, none] (S ++ [.lst []]) :=
    (exs_nx (σ' := [some (CT rooms (ps.map rowD) th ap pig rows), some (T5 rooms (ps.map rowD) th ap pig), some (.fl (rows.map rowS)), some (.ref S.length), none, none, none, none, none]) (S' := S ++ [.lst []]) (by simp only [ev, evs, evo, evc, asg, asgs, exs_cons, exs_nil, ex, bind_ok, bind_exc, st_ok, st_exc, bind_nx, bind_ret, bind_brk, bind_cnt, bind_xc, fin_ret, fin_nx, fin_exc, asE_some, asB_ok, bop_add, bop_sub, bop_mul, bop_fdiv, bop_mod, cop_lt, cop_le, cop_gt, cop_ge, cop_eq, cop_ne, cop_eqb, cop_neb, blt_abs, blt_lenT, blt_lenL, flat, lLINE0, lLINE1, lLINE2, lLINE3, lLINE4, lLINE5, lLINE6, lLINE7, lLINE8, alloc, sub_fl, sub_tp, seqOf_tup, seqOf_fl, ↓ev_int, ↓ev_bl, ↓ev_str, ↓ev_non, List.getElem?_cons_zero, List.getElem?_cons_succ, List.set_cons_zero, List.set_cons_succ, List.length_cons, List.length_nil, List.map_cons, List.map_nil, List.replicate, List.nil_append, List.cons_append, List.append_nil, if_true, if_false, decide_true, decide_false, Bool.not_true, Bool.not_false, Bool.false_eq_true, Nat.reduceLT, Nat.reduceAdd, Nat.reduceSub, Nat.reduceLeDiff, Nat.zero_add, Nat.add_zero, Nat.sub_zero, Nat.lt_add_one, Nat.zero_lt_succ, and_true, and_self, true_and, ite_true, ite_false])).trans (exs_nx (by simp only [ev, evs, evo, evc, asg, asgs, exs_cons, exs_nil, ex, bind_ok, bind_exc, st_ok, st_exc, bind_nx, bind_ret, bind_brk, bind_cnt, bind_xc, fin_ret, fin_nx, fin_exc, asE_some, asB_ok, bop_add, bop_sub, bop_mul, bop_fdiv, bop_mod, cop_lt, cop_le, cop_gt, cop_ge, cop_eq, cop_ne, cop_eqb, cop_neb, blt_abs, blt_lenT, blt_lenL, flat, lLINE0, lLINE1, lLINE2, lLINE3, lLINE4, lLINE5, lLINE6, lLINE7, lLINE8, alloc, sub_fl, sub_tp, seqOf_tup, seqOf_fl, ↓ev_int, ↓ev_bl, ↓ev_str, ↓ev_non, List.getElem?_cons_zero, List.getElem?_cons_succ, List.set_cons_zero, List.set_cons_succ, List.length_cons, List.length_nil, List.map_cons, List.map_nil, List.replicate, List.nil_append, List.cons_append, List.append_nil, if_true, if_false, decide_true, decide_false, Bool.not_true, Bool.not_false, Bool.false_eq_true, Nat.reduceLT, Nat.reduceAdd, Nat.reduceSub, Nat.reduceLeDiff, Nat.zero_add, Nat.add_zero, Nat.sub_zero, Nat.lt_add_one, Nat.zero_lt_succ, and_true, and_self, true_and, ite_true, ite_false]))
  have e3 : exs (envOf T.prog (n + 5)) (dropS 3 F_law_stands.body) [some (CT rooms (ps.map rowD) th ap pig rows), some (T5 rooms (ps.map rowD) th ap pig), some (.fl (rows.map rowS)), some (.ref S.length), some (.int 0), none, none, none, none] (S ++ [.lst []]) =
      exs (envOf T.prog (n + 5)) (dropS 4 F_law_stands.body) [some (CT rooms (ps.map rowD) th ap pig rows), some (T5 rooms (ps.map rowD) th ap pig), some (.fl (rows.map rowS)), some (.ref S.length), some (.int (volS rows)), a', b', c', none] (S ++ [.lst ((innerP rows).map prD)]) := by
    refine exs_nx ?_
    have it : evi (envOf T.prog (n + 5)) (.ex (.var 2)) [some (CT rooms (ps.map rowD) th ap pig rows), some (T5 rooms (ps.map rowD) th ap pig), some (.fl (rows.map rowS)), some (.ref S.length), some (.int 0), none, none, none, none] (S ++ [.lst []]) = .ok (rows.map rowS, none) (S ++ [.lst []]) := by
      rw [evi]; simp only [ev, evs, evo, evc, asg, asgs, exs_cons, exs_nil, ex, bind_ok, bind_exc, st_ok, st_exc, bind_nx, bind_ret, bind_brk, bind_cnt, bind_xc, fin_ret, fin_nx, fin_exc, asE_some, asB_ok, bop_add, bop_sub, bop_mul, bop_fdiv, bop_mod, cop_lt, cop_le, cop_gt, cop_ge, cop_eq, cop_ne, cop_eqb, cop_neb, blt_abs, blt_lenT, blt_lenL, flat, lLINE0, lLINE1, lLINE2, lLINE3, lLINE4, lLINE5, lLINE6, lLINE7, lLINE8, alloc, sub_fl, sub_tp, seqOf_tup, seqOf_fl, ↓ev_int, ↓ev_bl, ↓ev_str, ↓ev_non, List.getElem?_cons_zero, List.getElem?_cons_succ, List.set_cons_zero, List.set_cons_succ, List.length_cons, List.length_nil, List.map_cons, List.map_nil, List.replicate, List.nil_append, List.cons_append, List.append_nil, if_true, if_false, decide_true, decide_false, Bool.not_true, Bool.not_false, Bool.false_eq_true, Nat.reduceLT, Nat.reduceAdd, Nat.reduceSub, Nat.reduceLeDiff, Nat.zero_add, Nat.add_zero, Nat.sub_zero, Nat.lt_add_one, Nat.zero_lt_succ, and_true, and_self, true_and, ite_true, ite_false]; rfl
    rw [ex, it, st_ok]
    exact lp
  have e4 : exs (envOf T.prog (n + 5)) (dropS 4 F_law_stands.body) [some (CT rooms (ps.map rowD) th ap pig rows), some (T5 rooms (ps.map rowD) th ap pig), some (.fl (rows.map rowS)), some (.ref S.length), some (.int (volS rows)), a', b', c', none] (S ++ [.lst ((innerP rows).map prD)]) =
      exs (envOf T.prog (n + 5)) (dropS 5 F_law_stands.body) [some (CT rooms (ps.map rowD) th ap pig rows), some (T5 rooms (ps.map rowD) th ap pig), some (.fl (rows.map rowS)), some (.ref S.length), some (.int (volS rows)), a', b', c', some (T5 rooms (ps.map rowD) th ap pig)] (S ++ [.lst ((innerP rows).map prD)]) :=
    exs_nx (by
      simp only [ev, evs, evo, evc, asg, asgs, exs_cons, exs_nil, ex, bind_ok, bind_exc, st_ok, st_exc, bind_nx, bind_ret, bind_brk, bind_cnt, bind_xc, fin_ret, fin_nx, fin_exc, asE_some, asB_ok, bop_add, bop_sub, bop_mul, bop_fdiv, bop_mod, cop_lt, cop_le, cop_gt, cop_ge, cop_eq, cop_ne, cop_eqb, cop_neb, blt_abs, blt_lenT, blt_lenL, flat, lLINE0, lLINE1, lLINE2, lLINE3, lLINE4, lLINE5, lLINE6, lLINE7, lLINE8, alloc, sub_fl, sub_tp, seqOf_tup, seqOf_fl, ↓ev_int, ↓ev_bl, ↓ev_str, ↓ev_non, List.getElem?_cons_zero, List.getElem?_cons_succ, List.set_cons_zero, List.set_cons_succ, List.length_cons, List.length_nil, List.map_cons, List.map_nil, List.replicate, List.nil_append, List.cons_append, List.append_nil, if_true, if_false, decide_true, decide_false, Bool.not_true, Bool.not_false, Bool.false_eq_true, Nat.reduceLT, Nat.reduceAdd, Nat.reduceSub, Nat.reduceLeDiff, Nat.zero_add, Nat.add_zero, Nat.sub_zero, Nat.lt_add_one, Nat.zero_lt_succ, and_true, and_self, true_and, ite_true, ite_false, ct_pipe, pt_rooms, pt_table, pt_thick, pt_apart, pt_pig]
      rfl)
  rw [e1, e2, e3, e4]
  have gC : frz 6 (S ++ [.lst ((innerP rows).map prD)]) (.ref S.length) = some (.fl ((innerP rows).map prD)) := frz_cell (k := 5) last_get (norefs_pr _)
  have fa : frzCall (envOf T.prog (n + 5)) "_law_alike" [.fl ((innerP rows).map prD), .ref S.length] (S ++ [.lst ((innerP rows).map prD)]) = .ok (.bl true) (S ++ [.lst ((innerP rows).map prD)]) :=
    frzCall_ref (ws := [.fl ((innerP rows).map prD), .fl ((innerP rows).map prD)]) (S' := []) (by
      have g1 : frz 6 (S ++ [.lst ((innerP rows).map prD)]) (.fl ((innerP rows).map prD)) = some (.fl ((innerP rows).map prD)) := frz_self (norefs_pr _)
      simp only [List.mapM_cons, List.mapM_nil, g1, gC, Option.bind_eq_bind, Option.bind_some, Option.pure_def]) (call_alike hA 2 _ (al_pr _ hin) (n + 2) []) rfl rfl
  have hrb : ∀ S, rbd S (T5 rooms (ps.map rowD) th ap pig) = T5 rooms (ps.map rowD) th ap pig := fun S => by
    unfold rbd
    rw [frz_self (T5.nr ho)]
  have ce := (cop_same (hrb (S ++ [.lst ((innerP rows).map prD)])) (hrb _) (by decide) (data_T5 b)).1
  show fin (exs _ (.cons (.ret (.and _ _)) .nil) _ _) = _
  rw [exs_cons, ex, ev_and (p := true) (S1 := S ++ [.lst ((innerP rows).map prD)]) (by simp only [ev, evs, evo, evc, asg, asgs, exs_cons, exs_nil, ex, bind_ok, bind_exc, st_ok, st_exc, bind_nx, bind_ret, bind_brk, bind_cnt, bind_xc, fin_ret, fin_nx, fin_exc, asE_some, asB_ok, bop_add, bop_sub, bop_mul, bop_fdiv, bop_mod, cop_lt, cop_le, cop_gt, cop_ge, cop_eq, cop_ne, cop_eqb, cop_neb, blt_abs, blt_lenT, blt_lenL, flat, lLINE0, lLINE1, lLINE2, lLINE3, lLINE4, lLINE5, lLINE6, lLINE7, lLINE8, alloc, sub_fl, sub_tp, seqOf_tup, seqOf_fl, ↓ev_int, ↓ev_bl, ↓ev_str, ↓ev_non, List.getElem?_cons_zero, List.getElem?_cons_succ, List.set_cons_zero, List.set_cons_succ, List.length_cons, List.length_nil, List.map_cons, List.map_nil, List.replicate, List.nil_append, List.cons_append, List.append_nil, if_true, if_false, decide_true, decide_false, Bool.not_true, Bool.not_false, Bool.false_eq_true, Nat.reduceLT, Nat.reduceAdd, Nat.reduceSub, Nat.reduceLeDiff, Nat.zero_add, Nat.add_zero, Nat.sub_zero, Nat.lt_add_one, Nat.zero_lt_succ, and_true, and_self, true_and, ite_true, ite_false, fm, fa]), if_pos rfl]
  simp only [ev, evs, evo, evc, asg, asgs, exs_cons, exs_nil, ex, bind_ok, bind_exc, st_ok, st_exc, bind_nx, bind_ret, bind_brk, bind_cnt, bind_xc, fin_ret, fin_nx, fin_exc, asE_some, asB_ok, bop_add, bop_sub, bop_mul, bop_fdiv, bop_mod, cop_lt, cop_le, cop_gt, cop_ge, cop_eq, cop_ne, cop_eqb, cop_neb, blt_abs, blt_lenT, blt_lenL, flat, lLINE0, lLINE1, lLINE2, lLINE3, lLINE4, lLINE5, lLINE6, lLINE7, lLINE8, alloc, sub_fl, sub_tp, seqOf_tup, seqOf_fl, ↓ev_int, ↓ev_bl, ↓ev_str, ↓ev_non, List.getElem?_cons_zero, List.getElem?_cons_succ, List.set_cons_zero, List.set_cons_succ, List.length_cons, List.length_nil, List.map_cons, List.map_nil, List.replicate, List.nil_append, List.cons_append, List.append_nil, if_true, if_false, decide_true, decide_false, Bool.not_true, Bool.not_false, Bool.false_eq_true, Nat.reduceLT, Nat.reduceAdd, Nat.reduceSub, Nat.reduceLeDiff, Nat.zero_add, Nat.add_zero, Nat.sub_zero, Nat.lt_add_one, Nat.zero_lt_succ, and_true, and_self, true_and, ite_true, ite_false, ce]
end E1.K10

set_option maxHeartbeats 2000000
namespace E1.K10
open PySem (Str)
open E1 E1.Com E1.Fi
theorem below_nr {m : Nat} : ∀ (d : D), noref d = true → below m d = true := by
  have key : ∀ n (d : D), sizeOf d < n → noref d = true → below m d = true := by
    intro n
    induction n with
    | zero => intro d h; omega
    | succ n ih =>
      intro d hs hn
      have lst : ∀ xs : List D, sizeOf xs < n + 1 → norefs xs = true → belows m xs = true := by
        intro xs
        induction xs with
        | nil => intro _ _; rfl
        | cons x xs ihx =>
          intro h1 h2
          simp only [norefs, Bool.and_eq_true] at h2
          simp only [List.cons.sizeOf_spec] at h1
          simp only [belows, ih x (by omega) h2.1, ihx (by omega) h2.2, Bool.and_self]
      cases d with
      | tup xs => simp only [D.tup.sizeOf_spec] at hs; exact lst xs (by omega) hn
      | fl xs => simp only [D.fl.sizeOf_spec] at hs; exact lst xs (by omega) hn
      | fd tk ks vs =>
        simp only [D.fd.sizeOf_spec] at hs
        simp only [noref, Bool.and_eq_true] at hn
        simp only [below, lst ks (by omega) hn.1, lst vs (by omega) hn.2, Bool.and_self]
      | obj C ns vs => simp only [D.obj.sizeOf_spec] at hs; exact lst vs (by omega) hn
      | exn C ns vs => simp only [D.exn.sizeOf_spec] at hs; exact lst vs (by omega) hn
      | ref a => simp [noref] at hn
      | _ => rfl
  exact fun d h => key (sizeOf d + 1) d (by omega) h
theorem belows_nr {m : Nat} : ∀ {xs : List D}, norefs xs = true → belows m xs = true
  | [], _ => rfl
  | x :: xs, h => by
    simp only [norefs, Bool.and_eq_true] at h
    simp only [belows, below_nr x h.1, belows_nr h.2, Bool.and_self]
def S6 (rooms : List Int) (tb th ap : List D) (pig : D) (fill : List D) : Store := .ins "Pipe" pN [.ref 1, .ref 2, .ref 3, .ref 4, pig] :: [.lst (rooms.map .int), .lst tb, .lst th, .lst ap, .lst fill]
theorem S6_v {rooms : List Int} {tb th ap : List D} {pig : D} (ho : PipeOk rooms tb th ap pig) (fill : List D) : PipeV (S6 rooms tb th ap pig fill) (.ref 0) rooms tb th ap pig := by
  refine ⟨⟨.ref 1, .ref 2, .ref 3, .ref 4, fun T => ⟨rfl, rfl, rfl, rfl, rfl⟩, fun T => rfl, fun T => rfl, fun T => rfl, fun T => rfl⟩, fun T => ?_, ?_⟩
  · have c1 := frz_cell (k := 4) (i := 1) (S := S6 rooms tb th ap pig fill ++ T) (xs := rooms.map .int) rfl (norefs_ints rooms)
    have c2 := frz_cell (k := 4) (i := 2) (S := S6 rooms tb th ap pig fill ++ T) (xs := tb) rfl ho.n2
    have c3 := frz_cell (k := 4) (i := 3) (S := S6 rooms tb th ap pig fill ++ T) (xs := th) rfl ho.n3
    have c4 := frz_cell (k := 4) (i := 4) (S := S6 rooms tb th ap pig fill ++ T) (xs := ap) rfl ho.ap.noref
    have c5 : frz 5 (S6 rooms tb th ap pig fill ++ T) pig = some pig := frz_self ho.n4
    rw [frz]
    rw [if_neg (by simp [noref])]
    have hr : rb (S6 rooms tb th ap pig fill ++ T) (.ref 0) = .obj "Pipe" pN [.ref 1, .ref 2, .ref 3, .ref 4, pig] := rfl
    rw [hr]
    simp only [List.mapM_cons, List.mapM_nil, c1, c2, c3, c4, c5, Option.bind_eq_bind, Option.bind_some, Option.pure_def, Option.map_some]
    rfl
  · show (norefs _ && (norefs tb && (norefs th && (true && (noref pig && true))))) = true
    rw [norefs_ints, ho.n2, ho.n3, ho.n4]; rfl
theorem S6_b {rooms : List Int} {tb th ap : List D} {pig : D} (ho : PipeOk rooms tb th ap pig) (fill : List (Str × Int)) : (S6 rooms tb th ap pig (fill.map rowS)).all (cellB (S6 rooms tb th ap pig (fill.map rowS)).length) = true := by
  show ((true && (true && (true && (true && (below 6 pig && true))))) && (belows 6 _ && (belows 6 tb && (belows 6 th && (belows 6 ap && (belows 6 _ && true)))))) = true
  rw [below_nr pig ho.n4, belows_nr (norefs_ints rooms), belows_nr ho.n2, belows_nr ho.n3, belows_nr ho.ap.noref, belows_nr (norefs_rowS fill)]
  rfl
def aB : Sts := match F_law.body with
  | .cons _ (.cons _ (.cons _ (.cons _ (.cons _ (.cons _ (.cons _ (.cons (.for_ _ _ b) _))))))) => b
  | _ => .nil
def Lsts (S : Store) (m : Nat) : Prop := ∀ i ∈ [1, 2, 3, 4, 6, 7, 8], ∃ xs, S[i]? = some (.lst xs) ∧ xs.length ≤ 1000 + m
theorem Lsts.set {S : Store} {m i : Nat} {xs : List D} (h : Lsts S m) (hi : S[i]? = some (.lst xs)) {ys : List D} (hy : ys.length ≤ 1000 + (m + 1)) : Lsts (S.set i (.lst ys)) (m + 1) := fun j hj => by
  by_cases e : j = i
  · subst e
    have := (List.getElem?_eq_some_iff.mp hi).1
    exact ⟨ys, List.getElem?_set_self this, hy⟩
  · obtain ⟨zs, h1, h2⟩ := h j hj
    exact ⟨zs, by rw [List.getElem?_set_ne (Ne.symm e)]; exact h1, by omega⟩
theorem pure_law : ∀ ns : List Int, ns.length ≤ 63 → ∃ S, call T.prog deep "law" [.scr ns] [] = .ok (.bl true) S := by
  intro ns hl
  show ∃ S, call T.prog (29 + 1) "law" [.scr ns] [] = .ok (.bl true) S
  rw [call_fin fn_law 29 [.scr ns] [] rfl (by decide)]
  obtain ⟨ws, rooms, ps, th, ap, pig, fill, bg, hrz, cb⟩ := call_begun hF 25 ns hl [6, 30, 400000] (by intro z hz; simp at hz; omega) (by simp) (by simp) []
  have ho := bg.ok
  have hfl := bg.fl50
  have nws : norefs (ws.map D.str) = true := norefs_of fun x hx => by obtain ⟨y, _, rfl⟩ := List.mem_map.mp hx; rfl
  have fb : ∀ S, frzCall (envOf T.prog 29) "_law_begun" [.scr ns, .fl [.int 6, .int 30, .int 400000]] S = .ok (.fl [.fl (ws.map .str), T5 rooms (ps.map rowD) th ap pig, .fl (fill.map rowS)]) S := fun S =>
    frzCall_of (S' := []) rfl cb (by
      show (norefs _ && (noref (T5 rooms (ps.map rowD) th ap pig) && (norefs _ && true))) = true
      rw [nws, T5.nr ho, norefs_rowS]; rfl)
  have cp := call_lpipe hF 27 [] ho
  have cp' : (envOf T.prog 29).call "_law_pipe" [T5 rooms (ps.map rowD) th ap pig] [] = .ok (.ref 0) (pipeC 0 rooms (ps.map rowD) th ap pig) := cp
  have hlst := blt_listT (x := .fl (fill.map rowS)) (xs := fill.map rowS) (S := pipeC 0 rooms (ps.map rowD) th ap pig) rfl (by rw [List.length_map, LINE_num]; omega)
  have hlst' : blt (.list true) [.fl (fill.map rowS)] (pipeC 0 rooms (ps.map rowD) th ap pig) = .ok (.ref 5) (S6 rooms (ps.map rowD) th ap pig (fill.map rowS)) := hlst
  let rows := joinR fill
  have hvR : ∀ q ∈ joinR fill, 1 ≤ q.2 := fun q hq => (joinR_all (Q := fun w => w ∈ ws) bg.fl.all q hq).2
  have hlR := joinR_len fill
  -- the content
  have ec := ev_content hF 26 (es := .cons (.var 4) (.cons (.var 5) .nil)) (σ := [some (.scr ns), some (.fl (ws.map .str)), some (T5 rooms (ps.map rowD) th ap pig), some (.fl (fill.map rowS)), some (.ref 0), some (.ref 5), none, none, none]) (S0 := S6 rooms (ps.map rowD) th ap pig (fill.map rowS)) (S6_b ho fill) (pv := .ref 0) (fv := .ref 5) (by simp only [ev, evs, evo, evc, asg, asgs, exs_cons, exs_nil, ex, bind_ok, bind_exc, st_ok, st_exc, bind_nx, bind_ret, bind_brk, bind_cnt, bind_xc, fin_ret, fin_nx, fin_exc, asE_some, asB_ok, bop_add, bop_sub, bop_mul, bop_fdiv, bop_mod, cop_lt, cop_le, cop_gt, cop_ge, cop_eq, cop_ne, cop_eqb, cop_neb, blt_abs, blt_lenT, blt_lenL, flat, lLINE0, lLINE1, lLINE2, lLINE3, lLINE4, lLINE5, lLINE6, lLINE7, lLINE8, alloc, sub_fl, sub_tp, seqOf_tup, seqOf_fl, ↓ev_int, ↓ev_bl, ↓ev_str, ↓ev_non, List.getElem?_cons_zero, List.getElem?_cons_succ, List.set_cons_zero, List.set_cons_succ, List.length_cons, List.length_nil, List.map_cons, List.map_nil, List.replicate, List.nil_append, List.cons_append, List.append_nil, if_true, if_false, decide_true, decide_false, Bool.not_true, Bool.not_false, Bool.false_eq_true, Nat.reduceLT, Nat.reduceAdd, Nat.reduceSub, Nat.reduceLeDiff, Nat.zero_add, Nat.add_zero, Nat.sub_zero, Nat.lt_add_one, Nat.zero_lt_succ, and_true, and_self, true_and, ite_true, ite_false]) (S6_v ho _) ho (ck := some (5, fill.map rowS)) (ps := fill) (fun T => rfl) (by omega)
  rw [if_pos bg.sum, joined_none bg.fl.ch] at ec
  dsimp only at ec
  have fj : ∀ S, frzCall (envOf T.prog 29) "_law_joined" [.fl (fill.map rowS)] S = .ok (.fl ((joinR fill).map rowS)) S := frz_joined "_law_joined" hF.ljoined 28 fill (by omega)
  have fs : ∀ S, frzCall (envOf T.prog 29) "_law_stands" [CT rooms (ps.map rowD) th ap pig (joinR fill), T5 rooms (ps.map rowD) th ap pig, .fl ((joinR fill).map rowS)] S = .ok (.bl true) S := fun S =>
    frzCall_of (by
      show (noref (CT rooms (ps.map rowD) th ap pig (joinR fill)) && (noref (T5 rooms (ps.map rowD) th ap pig) && (norefs _ && true))) = true
      rw [CT.nr ho, T5.nr ho, norefs_rowS]; rfl) (call_stands 23 bg (joinR fill) hvR (by omega) []) rfl
  have step1 : exs (envOf T.prog 29) F_law.body [some (.scr ns), none, none, none, none, none, none, none, none] [] =
      exs (envOf T.prog 29) (dropS 5 F_law.body) [some (.scr ns), some (.fl (ws.map .str)), some (T5 rooms (ps.map rowD) th ap pig), some (.fl (fill.map rowS)), some (.ref 0), some (.ref 5), some (CT rooms (ps.map rowD) th ap pig (joinR fill)), some (.fl ((joinR fill).map rowS)), none] (S6 rooms (ps.map rowD) th ap pig (fill.map rowS)) := by
    refine (exs_nx (σ' := [some (.scr ns), some (.fl (ws.map .str)), some (T5 rooms (ps.map rowD) th ap pig), some (.fl (fill.map rowS)), none, none, none, none, none]) (S' := []) (by simp only [ev, evs, evo, evc, asg, asgs, exs_cons, exs_nil, ex, bind_ok, bind_exc, st_ok, st_exc, bind_nx, bind_ret, bind_brk, bind_cnt, bind_xc, fin_ret, fin_nx, fin_exc, asE_some, asB_ok, bop_add, bop_sub, bop_mul, bop_fdiv, bop_mod, cop_lt, cop_le, cop_gt, cop_ge, cop_eq, cop_ne, cop_eqb, cop_neb, blt_abs, blt_lenT, blt_lenL, flat, lLINE0, lLINE1, lLINE2, lLINE3, lLINE4, lLINE5, lLINE6, lLINE7, lLINE8, alloc, sub_fl, sub_tp, seqOf_tup, seqOf_fl, ↓ev_int, ↓ev_bl, ↓ev_str, ↓ev_non, List.getElem?_cons_zero, List.getElem?_cons_succ, List.set_cons_zero, List.set_cons_succ, List.length_cons, List.length_nil, List.map_cons, List.map_nil, List.replicate, List.nil_append, List.cons_append, List.append_nil, if_true, if_false, decide_true, decide_false, Bool.not_true, Bool.not_false, Bool.false_eq_true, Nat.reduceLT, Nat.reduceAdd, Nat.reduceSub, Nat.reduceLeDiff, Nat.zero_add, Nat.add_zero, Nat.sub_zero, Nat.lt_add_one, Nat.zero_lt_succ, and_true, and_self, true_and, ite_true, ite_false, fb])).trans ?_
    refine (exs_nx (σ' := [some (.scr ns), some (.fl (ws.map .str)), some (T5 rooms (ps.map rowD) th ap pig), some (.fl (fill.map rowS)), some (.ref 0), none, none, none, none]) (S' := pipeC 0 rooms (ps.map rowD) th ap pig) (by simp only [ev, evs, evo, evc, asg, asgs, exs_cons, exs_nil, ex, bind_ok, bind_exc, st_ok, st_exc, bind_nx, bind_ret, bind_brk, bind_cnt, bind_xc, fin_ret, fin_nx, fin_exc, asE_some, asB_ok, bop_add, bop_sub, bop_mul, bop_fdiv, bop_mod, cop_lt, cop_le, cop_gt, cop_ge, cop_eq, cop_ne, cop_eqb, cop_neb, blt_abs, blt_lenT, blt_lenL, flat, lLINE0, lLINE1, lLINE2, lLINE3, lLINE4, lLINE5, lLINE6, lLINE7, lLINE8, alloc, sub_fl, sub_tp, seqOf_tup, seqOf_fl, ↓ev_int, ↓ev_bl, ↓ev_str, ↓ev_non, List.getElem?_cons_zero, List.getElem?_cons_succ, List.set_cons_zero, List.set_cons_succ, List.length_cons, List.length_nil, List.map_cons, List.map_nil, List.replicate, List.nil_append, List.cons_append, List.append_nil, if_true, if_false, decide_true, decide_false, Bool.not_true, Bool.not_false, Bool.false_eq_true, Nat.reduceLT, Nat.reduceAdd, Nat.reduceSub, Nat.reduceLeDiff, Nat.zero_add, Nat.add_zero, Nat.sub_zero, Nat.lt_add_one, Nat.zero_lt_succ, and_true, and_self, true_and, ite_true, ite_false, cp'])).trans ?_
    refine (exs_nx (σ' := [some (.scr ns), some (.fl (ws.map .str)), some (T5 rooms (ps.map rowD) th ap pig), some (.fl (fill.map rowS)), some (.ref 0), some (.ref 5), none, none, none]) (S' := S6 rooms (ps.map rowD) th ap pig (fill.map rowS)) (by simp only [ev, evs, evo, evc, asg, asgs, exs_cons, exs_nil, ex, bind_ok, bind_exc, st_ok, st_exc, bind_nx, bind_ret, bind_brk, bind_cnt, bind_xc, fin_ret, fin_nx, fin_exc, asE_some, asB_ok, bop_add, bop_sub, bop_mul, bop_fdiv, bop_mod, cop_lt, cop_le, cop_gt, cop_ge, cop_eq, cop_ne, cop_eqb, cop_neb, blt_abs, blt_lenT, blt_lenL, flat, lLINE0, lLINE1, lLINE2, lLINE3, lLINE4, lLINE5, lLINE6, lLINE7, lLINE8, alloc, sub_fl, sub_tp, seqOf_tup, seqOf_fl, ↓ev_int, ↓ev_bl, ↓ev_str, ↓ev_non, List.getElem?_cons_zero, List.getElem?_cons_succ, List.set_cons_zero, List.set_cons_succ, List.length_cons, List.length_nil, List.map_cons, List.map_nil, List.replicate, List.nil_append, List.cons_append, List.append_nil, if_true, if_false, decide_true, decide_false, Bool.not_true, Bool.not_false, Bool.false_eq_true, Nat.reduceLT, Nat.reduceAdd, Nat.reduceSub, Nat.reduceLeDiff, Nat.zero_add, Nat.add_zero, Nat.sub_zero, Nat.lt_add_one, Nat.zero_lt_succ, and_true, and_self, true_and, ite_true, ite_false, hlst'])).trans ?_
    refine (exs_nx (σ' := [some (.scr ns), some (.fl (ws.map .str)), some (T5 rooms (ps.map rowD) th ap pig), some (.fl (fill.map rowS)), some (.ref 0), some (.ref 5), some (CT rooms (ps.map rowD) th ap pig (joinR fill)), none, none]) (S' := S6 rooms (ps.map rowD) th ap pig (fill.map rowS)) (by
      rw [ex, ec, st_ok]
      simp only [ev, evs, evo, evc, asg, asgs, exs_cons, exs_nil, ex, bind_ok, bind_exc, st_ok, st_exc, bind_nx, bind_ret, bind_brk, bind_cnt, bind_xc, fin_ret, fin_nx, fin_exc, asE_some, asB_ok, bop_add, bop_sub, bop_mul, bop_fdiv, bop_mod, cop_lt, cop_le, cop_gt, cop_ge, cop_eq, cop_ne, cop_eqb, cop_neb, blt_abs, blt_lenT, blt_lenL, flat, lLINE0, lLINE1, lLINE2, lLINE3, lLINE4, lLINE5, lLINE6, lLINE7, lLINE8, alloc, sub_fl, sub_tp, seqOf_tup, seqOf_fl, ↓ev_int, ↓ev_bl, ↓ev_str, ↓ev_non, List.getElem?_cons_zero, List.getElem?_cons_succ, List.set_cons_zero, List.set_cons_succ, List.length_cons, List.length_nil, List.map_cons, List.map_nil, List.replicate, List.nil_append, List.cons_append, List.append_nil, if_true, if_false, decide_true, decide_false, Bool.not_true, Bool.not_false, Bool.false_eq_true, Nat.reduceLT, Nat.reduceAdd, Nat.reduceSub, Nat.reduceLeDiff, Nat.zero_add, Nat.add_zero, Nat.sub_zero, Nat.lt_add_one, Nat.zero_lt_succ, and_true, and_self, true_and, ite_true, ite_false])).trans ?_
    exact exs_nx (by simp only [ev, evs, evo, evc, asg, asgs, exs_cons, exs_nil, ex, bind_ok, bind_exc, st_ok, st_exc, bind_nx, bind_ret, bind_brk, bind_cnt, bind_xc, fin_ret, fin_nx, fin_exc, asE_some, asB_ok, bop_add, bop_sub, bop_mul, bop_fdiv, bop_mod, cop_lt, cop_le, cop_gt, cop_ge, cop_eq, cop_ne, cop_eqb, cop_neb, blt_abs, blt_lenT, blt_lenL, flat, lLINE0, lLINE1, lLINE2, lLINE3, lLINE4, lLINE5, lLINE6, lLINE7, lLINE8, alloc, sub_fl, sub_tp, seqOf_tup, seqOf_fl, ↓ev_int, ↓ev_bl, ↓ev_str, ↓ev_non, List.getElem?_cons_zero, List.getElem?_cons_succ, List.set_cons_zero, List.set_cons_succ, List.length_cons, List.length_nil, List.map_cons, List.map_nil, List.replicate, List.nil_append, List.cons_append, List.append_nil, if_true, if_false, decide_true, decide_false, Bool.not_true, Bool.not_false, Bool.false_eq_true, Nat.reduceLT, Nat.reduceAdd, Nat.reduceSub, Nat.reduceLeDiff, Nat.zero_add, Nat.add_zero, Nat.sub_zero, Nat.lt_add_one, Nat.zero_lt_succ, and_true, and_self, true_and, ite_true, ite_false, fj])
  show ∃ S, fin (exs (envOf T.prog 29) F_law.body [some (.scr ns), none, none, none, none, none, none, none, none] []) = .ok (.bl true) S
  rw [step1]
  -- the first look
  have hrb1 : rbd (S6 rooms (ps.map rowD) th ap pig (fill.map rowS)) (.ref 5) = .fl (fill.map rowS) := by
    unfold rbd
    rw [frz_cell (k := 5) (i := 5) (xs := fill.map rowS) rfl (norefs_rowS fill)]
  have hrb2 : rbd (S6 rooms (ps.map rowD) th ap pig (fill.map rowS)) (.fl (fill.map rowS)) = .fl (fill.map rowS) := by
    unfold rbd
    rw [frz_self (show noref (D.fl (fill.map rowS)) = true from norefs_rowS fill)]
  have cn := (cop_same hrb1 hrb2 (by decide) (data_rowS fill)).2
  have step2 : exs (envOf T.prog 29) (dropS 5 F_law.body) [some (.scr ns), some (.fl (ws.map .str)), some (T5 rooms (ps.map rowD) th ap pig), some (.fl (fill.map rowS)), some (.ref 0), some (.ref 5), some (CT rooms (ps.map rowD) th ap pig (joinR fill)), some (.fl ((joinR fill).map rowS)), none] (S6 rooms (ps.map rowD) th ap pig (fill.map rowS)) =
      exs (envOf T.prog 29) (dropS 7 F_law.body) [some (.scr ns), some (.fl (ws.map .str)), some (T5 rooms (ps.map rowD) th ap pig), some (.fl (fill.map rowS)), some (.ref 0), some (.ref 5), some (CT rooms (ps.map rowD) th ap pig (joinR fill)), some (.fl ((joinR fill).map rowS)), none] (S6 rooms (ps.map rowD) th ap pig []) := by
    refine (exs_nx (σ' := [some (.scr ns), some (.fl (ws.map .str)), some (T5 rooms (ps.map rowD) th ap pig), some (.fl (fill.map rowS)), some (.ref 0), some (.ref 5), some (CT rooms (ps.map rowD) th ap pig (joinR fill)), some (.fl ((joinR fill).map rowS)), none]) (S' := S6 rooms (ps.map rowD) th ap pig (fill.map rowS)) ?_).trans (exs_nx ?_)
    · rw [ex_ite (p := false) (S1 := S6 rooms (ps.map rowD) th ap pig (fill.map rowS)) (by
        rw [ev_or (p := false) (S1 := S6 rooms (ps.map rowD) th ap pig (fill.map rowS)) (by simp only [ev, evs, evo, evc, asg, asgs, exs_cons, exs_nil, ex, bind_ok, bind_exc, st_ok, st_exc, bind_nx, bind_ret, bind_brk, bind_cnt, bind_xc, fin_ret, fin_nx, fin_exc, asE_some, asB_ok, bop_add, bop_sub, bop_mul, bop_fdiv, bop_mod, cop_lt, cop_le, cop_gt, cop_ge, cop_eq, cop_ne, cop_eqb, cop_neb, blt_abs, blt_lenT, blt_lenL, flat, lLINE0, lLINE1, lLINE2, lLINE3, lLINE4, lLINE5, lLINE6, lLINE7, lLINE8, alloc, sub_fl, sub_tp, seqOf_tup, seqOf_fl, ↓ev_int, ↓ev_bl, ↓ev_str, ↓ev_non, List.getElem?_cons_zero, List.getElem?_cons_succ, List.set_cons_zero, List.set_cons_succ, List.length_cons, List.length_nil, List.map_cons, List.map_nil, List.replicate, List.nil_append, List.cons_append, List.append_nil, if_true, if_false, decide_true, decide_false, Bool.not_true, Bool.not_false, Bool.false_eq_true, Nat.reduceLT, Nat.reduceAdd, Nat.reduceSub, Nat.reduceLeDiff, Nat.zero_add, Nat.add_zero, Nat.sub_zero, Nat.lt_add_one, Nat.zero_lt_succ, and_true, and_self, true_and, ite_true, ite_false, cn]), if_neg (by simp)]
        simp only [ev, evs, evo, evc, asg, asgs, exs_cons, exs_nil, ex, bind_ok, bind_exc, st_ok, st_exc, bind_nx, bind_ret, bind_brk, bind_cnt, bind_xc, fin_ret, fin_nx, fin_exc, asE_some, asB_ok, bop_add, bop_sub, bop_mul, bop_fdiv, bop_mod, cop_lt, cop_le, cop_gt, cop_ge, cop_eq, cop_ne, cop_eqb, cop_neb, blt_abs, blt_lenT, blt_lenL, flat, lLINE0, lLINE1, lLINE2, lLINE3, lLINE4, lLINE5, lLINE6, lLINE7, lLINE8, alloc, sub_fl, sub_tp, seqOf_tup, seqOf_fl, ↓ev_int, ↓ev_bl, ↓ev_str, ↓ev_non, List.getElem?_cons_zero, List.getElem?_cons_succ, List.set_cons_zero, List.set_cons_succ, List.length_cons, List.length_nil, List.map_cons, List.map_nil, List.replicate, List.nil_append, List.cons_append, List.append_nil, if_true, if_false, decide_true, decide_false, Bool.not_true, Bool.not_false, Bool.false_eq_true, Nat.reduceLT, Nat.reduceAdd, Nat.reduceSub, Nat.reduceLeDiff, Nat.zero_add, Nat.add_zero, Nat.sub_zero, Nat.lt_add_one, Nat.zero_lt_succ, and_true, and_self, true_and, ite_true, ite_false, fs]), if_neg (by simp), exs_nil]
    · rw [ex, ev]
      simp only [ev, evs, evo, evc, asg, asgs, exs_cons, exs_nil, ex, bind_ok, bind_exc, st_ok, st_exc, bind_nx, bind_ret, bind_brk, bind_cnt, bind_xc, fin_ret, fin_nx, fin_exc, asE_some, asB_ok, bop_add, bop_sub, bop_mul, bop_fdiv, bop_mod, cop_lt, cop_le, cop_gt, cop_ge, cop_eq, cop_ne, cop_eqb, cop_neb, blt_abs, blt_lenT, blt_lenL, flat, lLINE0, lLINE1, lLINE2, lLINE3, lLINE4, lLINE5, lLINE6, lLINE7, lLINE8, alloc, sub_fl, sub_tp, seqOf_tup, seqOf_fl, ↓ev_int, ↓ev_bl, ↓ev_str, ↓ev_non, List.getElem?_cons_zero, List.getElem?_cons_succ, List.set_cons_zero, List.set_cons_succ, List.length_cons, List.length_nil, List.map_cons, List.map_nil, List.replicate, List.nil_append, List.cons_append, List.append_nil, if_true, if_false, decide_true, decide_false, Bool.not_true, Bool.not_false, Bool.false_eq_true, Nat.reduceLT, Nat.reduceAdd, Nat.reduceSub, Nat.reduceLeDiff, Nat.zero_add, Nat.add_zero, Nat.sub_zero, Nat.lt_add_one, Nat.zero_lt_succ, and_true, and_self, true_and, ite_true, ite_false]
      rfl
  rw [step2]
  -- the parts
  have cs := call_str rooms (ps.map rowD) th ap pig (joinR fill) hF 28 (by omega) (S6 rooms (ps.map rowD) th ap pig [])
  have cm := call_meet rooms (ps.map rowD) th ap pig (joinR fill) hF 27 (by omega) (S6 rooms (ps.map rowD) th ap pig [] ++ [.lst ((joinR fill).map rowS)])
  have cg := call_pigs rooms (ps.map rowD) th ap pig (joinR fill) hF 28 (S6 rooms (ps.map rowD) th ap pig [] ++ [.lst ((joinR fill).map rowS)] ++ [.lst ((innerP (joinR fill)).map prD)])
  let S9 : Store := S6 rooms (ps.map rowD) th ap pig [] ++ [.lst ((joinR fill).map rowS)] ++ [.lst ((innerP (joinR fill)).map prD)] ++ [.lst []]
  have cs' : (envOf T.prog 29).call "stretches" [CT rooms (ps.map rowD) th ap pig (joinR fill)] (S6 rooms (ps.map rowD) th ap pig []) = .ok (.ref 6) (S6 rooms (ps.map rowD) th ap pig [] ++ [.lst ((joinR fill).map rowS)]) := cs
  have cm' : (envOf T.prog 29).call "meetings" [CT rooms (ps.map rowD) th ap pig (joinR fill)] (S6 rooms (ps.map rowD) th ap pig [] ++ [.lst ((joinR fill).map rowS)]) = .ok (.ref 7) (S6 rooms (ps.map rowD) th ap pig [] ++ [.lst ((joinR fill).map rowS)] ++ [.lst ((innerP (joinR fill)).map prD)]) := cm
  have cg' : (envOf T.prog 29).call "pigs" [CT rooms (ps.map rowD) th ap pig (joinR fill)] (S6 rooms (ps.map rowD) th ap pig [] ++ [.lst ((joinR fill).map rowS)] ++ [.lst ((innerP (joinR fill)).map prD)]) = .ok (.ref 8) S9 := cg
  have a1 : attF (S6 rooms (ps.map rowD) th ap pig []) (.ref 0) "rooms" = some (.ref 1) := rfl
  have a2 : attF (S6 rooms (ps.map rowD) th ap pig []) (.ref 0) "table" = some (.ref 2) := rfl
  have a3 : attF (S6 rooms (ps.map rowD) th ap pig []) (.ref 0) "thick" = some (.ref 3) := rfl
  have a4 : attF (S6 rooms (ps.map rowD) th ap pig []) (.ref 0) "apart" = some (.ref 4) := rfl
  have it : evi (envOf T.prog 29) (.ex (.lst false (.cons (.att (.var 4) "rooms") (.cons (.att (.var 4) "table") (.cons (.att (.var 4) "thick") (.cons (.att (.var 4) "apart") (.cons (.call false "stretches" (.cons (.var 6) .nil)) (.cons (.call false "meetings" (.cons (.var 6) .nil)) (.cons (.call false "pigs" (.cons (.var 6) .nil)) .nil)))))))))
      [some (.scr ns), some (.fl (ws.map .str)), some (T5 rooms (ps.map rowD) th ap pig), some (.fl (fill.map rowS)), some (.ref 0), some (.ref 5), some (CT rooms (ps.map rowD) th ap pig (joinR fill)), some (.fl ((joinR fill).map rowS)), none] (S6 rooms (ps.map rowD) th ap pig []) = .ok ([.ref 1, .ref 2, .ref 3, .ref 4, .ref 6, .ref 7, .ref 8], none) S9 := by
    rw [evi]
    simp only [ev, evs, evo, evc, asg, asgs, exs_cons, exs_nil, ex, bind_ok, bind_exc, st_ok, st_exc, bind_nx, bind_ret, bind_brk, bind_cnt, bind_xc, fin_ret, fin_nx, fin_exc, asE_some, asB_ok, bop_add, bop_sub, bop_mul, bop_fdiv, bop_mod, cop_lt, cop_le, cop_gt, cop_ge, cop_eq, cop_ne, cop_eqb, cop_neb, blt_abs, blt_lenT, blt_lenL, flat, lLINE0, lLINE1, lLINE2, lLINE3, lLINE4, lLINE5, lLINE6, lLINE7, lLINE8, alloc, sub_fl, sub_tp, seqOf_tup, seqOf_fl, ↓ev_int, ↓ev_bl, ↓ev_str, ↓ev_non, List.getElem?_cons_zero, List.getElem?_cons_succ, List.set_cons_zero, List.set_cons_succ, List.length_cons, List.length_nil, List.map_cons, List.map_nil, List.replicate, List.nil_append, List.cons_append, List.append_nil, if_true, if_false, decide_true, decide_false, Bool.not_true, Bool.not_false, Bool.false_eq_true, Nat.reduceLT, Nat.reduceAdd, Nat.reduceSub, Nat.reduceLeDiff, Nat.zero_add, Nat.add_zero, Nat.sub_zero, Nat.lt_add_one, Nat.zero_lt_succ, and_true, and_self, true_and, ite_true, ite_false, a1, a2, a3, a4, cs', cm', cg']
    rfl
  have hin : (innerP (joinR fill)).length ≤ 1000 := by have := innerA_len (joinR fill) 0; unfold innerP; omega
  have h9 : Lsts S9 0 := by
    have l1 := ho.l1
    have l2 := ho.l2
    have l3 := ho.l3
    have l4 := ho.l4
    intro i hi
    simp only [List.mem_cons, List.not_mem_nil, or_false] at hi
    rcases hi with rfl | rfl | rfl | rfl | rfl | rfl | rfl
    · exact ⟨rooms.map .int, rfl, by rw [List.length_map]; omega⟩
    · exact ⟨ps.map rowD, rfl, by omega⟩
    · exact ⟨th, rfl, by omega⟩
    · exact ⟨ap, rfl, by omega⟩
    · exact ⟨(joinR fill).map rowS, rfl, by rw [List.length_map]; omega⟩
    · exact ⟨(innerP (joinR fill)).map prD, rfl, by rw [List.length_map]; omega⟩
    · exact ⟨[], rfl, by simp⟩
  obtain ⟨σ', S', lp, pa, rfl, _⟩ := forL_idx (asg := fun d σ S => asg (envOf T.prog 29) (.name 8) d σ S) (body := fun σ S => exs (envOf T.prog 29) aB σ S) (ck := none) (k := 0) (xs := [.ref 1, .ref 2, .ref 3, .ref 4, .ref 6, .ref 7, .ref 8])
    (I := fun m σ S => ∃ pa, σ = [some (.scr ns), some (.fl (ws.map .str)), some (T5 rooms (ps.map rowD) th ap pig), some (.fl (fill.map rowS)), some (.ref 0), some (.ref 5), some (CT rooms (ps.map rowD) th ap pig (joinR fill)), some (.fl ((joinR fill).map rowS)), pa] ∧ Lsts S m) (fun _ _ _ _ => trivial)
    (σ := [some (.scr ns), some (.fl (ws.map .str)), some (T5 rooms (ps.map rowD) th ap pig), some (.fl (fill.map rowS)), some (.ref 0), some (.ref 5), some (CT rooms (ps.map rowD) th ap pig (joinR fill)), some (.fl ((joinR fill).map rowS)), none]) (S := S9) ⟨none, rfl, h9⟩ (by
      rintro i x σ S hx ⟨pa, rfl, hL⟩
      rw [Nat.zero_add] at hL ⊢
      have hi : i < 7 := by
        have := (List.getElem?_eq_some_iff.mp hx).1
        simpa using this
      obtain ⟨j, hj, rfl⟩ : ∃ j, j ∈ [1, 2, 3, 4, 6, 7, 8] ∧ x = .ref j := by
        have := List.mem_of_getElem? hx
        simp only [List.mem_cons, List.not_mem_nil, or_false] at this
        rcases this with rfl | rfl | rfl | rfl | rfl | rfl | rfl
        · exact ⟨1, by simp, rfl⟩
        · exact ⟨2, by simp, rfl⟩
        · exact ⟨3, by simp, rfl⟩
        · exact ⟨4, by simp, rfl⟩
        · exact ⟨6, by simp, rfl⟩
        · exact ⟨7, by simp, rfl⟩
        · exact ⟨8, by simp, rfl⟩
      obtain ⟨xs, g1, g2⟩ := hL j hj
      have happ := ev_append (C := envOf T.prog 29) (b := false) (a := .var 8) (e := .tup (.cons (.lit (.int 0)) (.cons (.lit (.int 0)) .nil))) (σ := [some (.scr ns), some (.fl (ws.map .str)), some (T5 rooms (ps.map rowD) th ap pig), some (.fl (fill.map rowS)), some (.ref 0), some (.ref 5), some (CT rooms (ps.map rowD) th ap pig (joinR fill)), some (.fl ((joinR fill).map rowS)), some (.ref j)]) (S := S) (i := j) (xs := xs) (y := .tup [.int 0, .int 0]) (by simp only [ev, evs, evo, evc, asg, asgs, exs_cons, exs_nil, ex, bind_ok, bind_exc, st_ok, st_exc, bind_nx, bind_ret, bind_brk, bind_cnt, bind_xc, fin_ret, fin_nx, fin_exc, asE_some, asB_ok, bop_add, bop_sub, bop_mul, bop_fdiv, bop_mod, cop_lt, cop_le, cop_gt, cop_ge, cop_eq, cop_ne, cop_eqb, cop_neb, blt_abs, blt_lenT, blt_lenL, flat, lLINE0, lLINE1, lLINE2, lLINE3, lLINE4, lLINE5, lLINE6, lLINE7, lLINE8, alloc, sub_fl, sub_tp, seqOf_tup, seqOf_fl, ↓ev_int, ↓ev_bl, ↓ev_str, ↓ev_non, List.getElem?_cons_zero, List.getElem?_cons_succ, List.set_cons_zero, List.set_cons_succ, List.length_cons, List.length_nil, List.map_cons, List.map_nil, List.replicate, List.nil_append, List.cons_append, List.append_nil, if_true, if_false, decide_true, decide_false, Bool.not_true, Bool.not_false, Bool.false_eq_true, Nat.reduceLT, Nat.reduceAdd, Nat.reduceSub, Nat.reduceLeDiff, Nat.zero_add, Nat.add_zero, Nat.sub_zero, Nat.lt_add_one, Nat.zero_lt_succ, and_true, and_self, true_and, ite_true, ite_false]) (by simp only [ev, evs, evo, evc, asg, asgs, exs_cons, exs_nil, ex, bind_ok, bind_exc, st_ok, st_exc, bind_nx, bind_ret, bind_brk, bind_cnt, bind_xc, fin_ret, fin_nx, fin_exc, asE_some, asB_ok, bop_add, bop_sub, bop_mul, bop_fdiv, bop_mod, cop_lt, cop_le, cop_gt, cop_ge, cop_eq, cop_ne, cop_eqb, cop_neb, blt_abs, blt_lenT, blt_lenL, flat, lLINE0, lLINE1, lLINE2, lLINE3, lLINE4, lLINE5, lLINE6, lLINE7, lLINE8, alloc, sub_fl, sub_tp, seqOf_tup, seqOf_fl, ↓ev_int, ↓ev_bl, ↓ev_str, ↓ev_non, List.getElem?_cons_zero, List.getElem?_cons_succ, List.set_cons_zero, List.set_cons_succ, List.length_cons, List.length_nil, List.map_cons, List.map_nil, List.replicate, List.nil_append, List.cons_append, List.append_nil, if_true, if_false, decide_true, decide_false, Bool.not_true, Bool.not_false, Bool.false_eq_true, Nat.reduceLT, Nat.reduceAdd, Nat.reduceSub, Nat.reduceLeDiff, Nat.zero_add, Nat.add_zero, Nat.sub_zero, Nat.lt_add_one, Nat.zero_lt_succ, and_true, and_self, true_and, ite_true, ite_false]) g1 (by rw [LINE_num]; omega)
      refine ⟨[some (.scr ns), some (.fl (ws.map .str)), some (T5 rooms (ps.map rowD) th ap pig), some (.fl (fill.map rowS)), some (.ref 0), some (.ref 5), some (CT rooms (ps.map rowD) th ap pig (joinR fill)), some (.fl ((joinR fill).map rowS)), some (.ref j)], S, by simp only [ev, evs, evo, evc, asg, asgs, exs_cons, exs_nil, ex, bind_ok, bind_exc, st_ok, st_exc, bind_nx, bind_ret, bind_brk, bind_cnt, bind_xc, fin_ret, fin_nx, fin_exc, asE_some, asB_ok, bop_add, bop_sub, bop_mul, bop_fdiv, bop_mod, cop_lt, cop_le, cop_gt, cop_ge, cop_eq, cop_ne, cop_eqb, cop_neb, blt_abs, blt_lenT, blt_lenL, flat, lLINE0, lLINE1, lLINE2, lLINE3, lLINE4, lLINE5, lLINE6, lLINE7, lLINE8, alloc, sub_fl, sub_tp, seqOf_tup, seqOf_fl, ↓ev_int, ↓ev_bl, ↓ev_str, ↓ev_non, List.getElem?_cons_zero, List.getElem?_cons_succ, List.set_cons_zero, List.set_cons_succ, List.length_cons, List.length_nil, List.map_cons, List.map_nil, List.replicate, List.nil_append, List.cons_append, List.append_nil, if_true, if_false, decide_true, decide_false, Bool.not_true, Bool.not_false, Bool.false_eq_true, Nat.reduceLT, Nat.reduceAdd, Nat.reduceSub, Nat.reduceLeDiff, Nat.zero_add, Nat.add_zero, Nat.sub_zero, Nat.lt_add_one, Nat.zero_lt_succ, and_true, and_self, true_and, ite_true, ite_false], [some (.scr ns), some (.fl (ws.map .str)), some (T5 rooms (ps.map rowD) th ap pig), some (.fl (fill.map rowS)), some (.ref 0), some (.ref 5), some (CT rooms (ps.map rowD) th ap pig (joinR fill)), some (.fl ((joinR fill).map rowS)), some (.ref j)], S.set j (.lst (xs ++ [.tup [.int 0, .int 0]])), .inl ?_, _, rfl, hL.set g1 (by rw [List.length_append]; simp; omega)⟩
      show exs _ (.cons (.expr _) .nil) _ _ = _
      rw [exs_cons, ex, happ, st_ok, bind_nx, exs_nil])
  refine ⟨S', ?_⟩
  have step3 : exs (envOf T.prog 29) (dropS 7 F_law.body) [some (.scr ns), some (.fl (ws.map .str)), some (T5 rooms (ps.map rowD) th ap pig), some (.fl (fill.map rowS)), some (.ref 0), some (.ref 5), some (CT rooms (ps.map rowD) th ap pig (joinR fill)), some (.fl ((joinR fill).map rowS)), none] (S6 rooms (ps.map rowD) th ap pig []) =
      exs (envOf T.prog 29) (dropS 8 F_law.body) [some (.scr ns), some (.fl (ws.map .str)), some (T5 rooms (ps.map rowD) th ap pig), some (.fl (fill.map rowS)), some (.ref 0), some (.ref 5), some (CT rooms (ps.map rowD) th ap pig (joinR fill)), some (.fl ((joinR fill).map rowS)), pa] S' :=
    exs_nx (by rw [ex, it, st_ok]; exact lp)
  rw [step3]
  show fin (exs _ (.cons (.ret (.call true "_law_stands" _)) .nil) _ _) = _
  simp only [ev, evs, evo, evc, asg, asgs, exs_cons, exs_nil, ex, bind_ok, bind_exc, st_ok, st_exc, bind_nx, bind_ret, bind_brk, bind_cnt, bind_xc, fin_ret, fin_nx, fin_exc, asE_some, asB_ok, bop_add, bop_sub, bop_mul, bop_fdiv, bop_mod, cop_lt, cop_le, cop_gt, cop_ge, cop_eq, cop_ne, cop_eqb, cop_neb, blt_abs, blt_lenT, blt_lenL, flat, lLINE0, lLINE1, lLINE2, lLINE3, lLINE4, lLINE5, lLINE6, lLINE7, lLINE8, alloc, sub_fl, sub_tp, seqOf_tup, seqOf_fl, ↓ev_int, ↓ev_bl, ↓ev_str, ↓ev_non, List.getElem?_cons_zero, List.getElem?_cons_succ, List.set_cons_zero, List.set_cons_succ, List.length_cons, List.length_nil, List.map_cons, List.map_nil, List.replicate, List.nil_append, List.cons_append, List.append_nil, if_true, if_false, decide_true, decide_false, Bool.not_true, Bool.not_false, Bool.false_eq_true, Nat.reduceLT, Nat.reduceAdd, Nat.reduceSub, Nat.reduceLeDiff, Nat.zero_add, Nat.add_zero, Nat.sub_zero, Nat.lt_add_one, Nat.zero_lt_succ, and_true, and_self, true_and, ite_true, ite_false, fs]
end E1.K10

set_option maxHeartbeats 0
namespace E1.K10
open PySem PySem.Spec PyProof.Rows L2 E1
abbrev R : PySem.W.OpenRow := PySem.W.OpenLaw.row PySem.Challenge.rw_batchpipe_k10_a_fill
abbrev hk : PySem.W.Hook := hookM T 4
def ob (s : PySem.W.SharedT) : AlM := obsM T 4 (HandSHeadRun.getT s)
theorem ob_eq (s : PySem.W.SharedT) : ob s = hk.obs s.abs := obsM_eq (HandSHeadRun.getT_eq s)
def names : List PySem.Str := ["PipeError", "BadFill", "Touch", "Pipe", "place_of", "are_apart", "joined_rows", "rows_between", "inner_places", "end_place", "first_apart", "Content", "stretches", "meetings", "pigs", "ware_at", "_law_mix", "_law_at", "_law_wares", "_law_five", "_law_apart", "_law_fill", "_law_push", "_law_alike", "_law_pipe", "_law_begun", "_law_way", "_law_joined", "_law_stands"]
theorem run (w : World) : HandSHeadRun.RunEq R (PySem.W.view R.prog [33]) hk ob 6000 names w := by
  intro os
  kernel_rfl
end E1.K10
open PySem PySem.W PySem.Calls PyProof.Rows
theorem PySem.Challenge.cw_batchpipe_k10_a_fill_holds : PySem.Challenge.rw_batchpipe_k10_a_fill.Holds := by
  w_on; o_law
  refine HandSHeadRun.head_any (r := OpenLaw.row PySem.Challenge.rw_batchpipe_k10_a_fill) (q := view (OpenLaw.row PySem.Challenge.rw_batchpipe_k10_a_fill).prog [33]) (H := E1.K10.hk) (ob := E1.K10.ob) (M := 6000) (loose := E1.K10.names) (d := HandSHeadRun.topDef (OpenLaw.row PySem.Challenge.rw_batchpipe_k10_a_fill).prog 33) (kwd := []) E1.K10.ob_eq
    (by kernel_rfl) (fun s => by kernel_rfl) E1.K10.run (by kernel_rfl) (by kernel_rfl) (by kernel_rfl) (by rfl) (by first | assumption | decide +kernel) (by decide +kernel) ⟨rfl, rfl, rfl, rfl, rfl, by decide +kernel⟩ ?hw ?hc
  case hw => w_witness2
  case hc => exact E1.walk_E1 (n := E1.K10.deep) (x := E1.K10.E_law) rfl (by kernel_rfl) ⟨rfl, by decide, by decide⟩ E1.K10.okT E1.K10.okD (by rfl) (by decide) rfl (by kernel_rfl) E1.K10.pure_law


