import PyProof.Rows.All
import Wide.All
import OpenK.AllK
import Wide.FinOn
import HandS.ForMost
import HandS.Exc
import HandS.TryOnly
import HandS.ExcOwn
import HandS.IsInst
import HandS.Gcd
import HandS.Wide
import HandS.Conv
import HandS.Flow
import HandS.Style
import HandS.Lambda
import HandS.TupMul
import HandS.Zip
import HandS.Walk
import HandS.Rev
import KE.GoesEnum
import HandS.ExcIs
import HandS.ExcField
import KE.KExcIs
import HandS.ExcValue
import HandS.Words
import HandS.EndBits
import HandS.EndTab
import HandS.NestedK
import HandS.ExcSuper
import KE.KExcSuper
import KE.KSuper
import PySem.Challenge.RW_whennumbersstop_k35_refusals_of_polynomi
set_option Elab.async false
set_option maxRecDepth 100000
/-! Pv1: a small language for what the program's defs do, over data and a store of lists; its meaning as a function. -/
namespace Pv
open PySem L2

/-- a value: data, or a list of the store -/
inductive A where
  | d (x : PyData)
  | ref (i : Nat)
  /-- a tuple that holds more than data -/
  | tup (as : List A)
  /-- an exception that was caught: its class, its value -/
  | exc (c : Nat) (p : PyData)
  /-- a lambda of the def that makes them -/
  | lam (k : Nat)
/-- a store object: a list of data, a list of more, a table of code objects -/
inductive O where
  | lst (ds : List PyData)
  | lsa (as : List A)
  | tab (j : Nat)
abbrev Sto := List O
abbrev En := List (Option A)

inductive R (α : Type) where
  | ok (a : α) (S : Sto)
  | ex (c : Nat) (p : PyData) (S : Sto)
  | no
def R.bind {α β : Type} : R α → (α → Sto → R β) → R β
  | .ok a S, f => f a S
  | .ex c p S, _ => .ex c p S
  | .no, _ => .no
@[simp] theorem R.bind_ok {α β : Type} {a : α} {S : Sto} {f : α → Sto → R β} : R.bind (.ok a S) f = f a S := rfl
@[simp] theorem R.bind_ex {α β : Type} {c : Nat} {p : PyData} {S : Sto} {f : α → Sto → R β} : R.bind (.ex c p S) f = .ex c p S := rfl
@[simp] theorem R.bind_no {α β : Type} {f : α → Sto → R β} : R.bind (.no : R α) f = .no := rfl
/-- an optional value at the store -/
def R.opt {α : Type} (S : Sto) : Option α → R α
  | some a => .ok a S
  | none => .no
@[simp] theorem R.opt_some {α : Type} {S : Sto} {a : α} : R.opt S (some a) = .ok a S := rfl
@[simp] theorem R.opt_none {α : Type} {S : Sto} : R.opt S (none : Option α) = .no := rfl

inductive BOp where
  | add | sub | mul | fdiv | mod | pow
inductive COp where
  | eq | ne | lt | le | gt | ge | isN | notN
inductive Bi where
  | len | abs | int | max | min | sum | all | any | isInt | isBool | isTup | repr | gcd | isqrt | tuple | list | listRange
inductive Tg where
  | n (i : Nat)
  | t (is : List Nat)
mutual
inductive Ex where
  | k (x : PyData)
  | v (i : Nat)
  | bin (o : BOp) (a b : Ex)
  | neg (a : Ex)
  | not (a : Ex)
  | cmp (o : COp) (a b : Ex)
  | chain (o o' : COp) (a b c : Ex)
  | and (a b : Ex)
  | or (a b : Ex)
  | ite (c a b : Ex)
  | tup (xs : Exs)
  | lst (xs : Exs)
  | lstM (xs : Exs)
  | call (f : Nat) (xs : Exs)
  | bi (f : Bi) (xs : Exs)
  | ix (a b : Ex)
  | dix (ks : List Int) (vs : Exs) (i : Ex)
  | slice (a : Ex) (lo hi : Exs)
  | lc (t : Tg) (own : List Nat) (it : Itr) (e : Ex) (cs : Exs)
  /-- a list that is moved into the store -/
  | own (a : Ex)
  /-- a new list so often; a list of the store and a new list -/
  | repF (a n : Ex)
  | catF (a b : Ex)
  | lstA (xs : Exs)
  | rev (a : Ex)
  /-- a lambda, its number; where the table stands; the table's number -/
  | mk (k t j : Nat)
  /-- a value is called -/
  | callv (a : Ex)
  /-- an exception's value -/
  | exv (a : Ex)
  /-- isinstance of own classes -/
  | isC (a : Ex) (cs : List Nat)
  | isV (a : Ex)
inductive Itr where
  | e (a : Ex)
  | rng (xs : Exs)
  | zip (a b : Ex)
  | enum (a : Ex)
inductive Exs where
  | nil
  | cons (a : Ex) (r : Exs)
end
mutual
inductive Sm where
  | set (i : Nat) (e : Ex)
  | par (i j : Nat) (a b : Ex)
  | par3 (i j l : Nat) (a b c : Ex)
  | unp (is : List Nat) (e : Ex)
  | six (a i e : Ex)
  | ret (e : Ex)
  | retN
  | ife (c : Ex) (a b : Ss)
  | whl (c : Ex) (b : Ss)
  | for_ (t : Tg) (it : Itr) (b : Ss)
  /-- over a list of the store -/
  | forL (t : Tg) (it : Ex) (b : Ss)
  /-- try: x = e; except these as n: y = n -/
  | tryS (i : Nat) (e : Ex) (cs : List Nat) (n j : Nat)
  /-- try: x = e (or return e); except these as n: return (n, None) -/
  | tryR (i : Option Nat) (e : Ex) (cs : List Nat) (n : Nat)
  | nev
  | expr (e : Ex)
  | app (a e : Ex)
  | pass
  | brk
  | cont
  | raise (c : Nat) (e : Ex)
inductive Ss where
  | nil
  | cons (a : Sm) (r : Ss)
end

/-! ### what the parts do with data -/
def mulOk (a b : Int) : Bool := decide (a.natAbs.log2 + b.natAbs.log2 < 1000000)
def divOk (b : Int) : Bool := decide (b ≠ 0) && decide (b.natAbs.log2 < 9000)
def powOk (a b : Int) : Bool := decide (0 ≤ b) && decide ((Builtin.Int.intBits a : Int) * b ≤ 2 ^ 27)
def repOk (n : Nat) (k : Int) : Bool := decide (-(2 ^ 63) ≤ k) && decide (k < 2 ^ 63) && decide (n * k.toNat ≤ sizeLine)
def repD (xs : List PyData) (k : Nat) : List PyData := (List.replicate k xs).flatten
def bI (b : Bool) : Int := if b then 1 else 0
def binD : BOp → PyData → PyData → Option PyData
  | .add, .int a, .int b => some (.int (a + b))
  | .add, .int a, .bool b => some (.int (a + bI b))
  | .sub, .int a, .int b => some (.int (a - b))
  | .sub, .int a, .bool b => some (.int (a - bI b))
  | .sub, .bool a, .bool b => some (.int (bI a - bI b))
  | .mul, .int a, .int b => if mulOk a b then some (.int (a * b)) else none
  | .fdiv, .int a, .int b => if divOk b then some (.int (a.fdiv b)) else none
  | .mod, .int a, .int b => if b ≠ 0 then some (.int (a.fmod b)) else none
  | .pow, .int a, .int b => if powOk a b then some (.int (a ^ b.toNat)) else none
  | .add, .tuple a, .tuple b => if a ≠ [] ∧ b ≠ [] ∧ a.length + b.length ≤ sizeLine then some (.tuple (a ++ b)) else none
  | .mul, .tuple a, .int k => if a ≠ [] ∧ 2 ≤ k ∧ k ≤ 1000 ∧ a.length ≤ 1000 then some (.tuple (repD a k.toNat)) else none
  | _, _, _ => none
def flatD (d : PyData) : Bool := SeqAt.shaped d
def isNone : PyData → Bool
  | .none => true
  | _ => false
def cmpD : COp → PyData → PyData → Option Bool
  | .eq, .str a, .str b => some (decide (a = b))
  | .ne, .str a, .str b => some (!decide (a = b))
  | .eq, a, b => if flatD a && flatD b then some (PyData.eqv a b) else none
  | .ne, a, b => if flatD a && flatD b then some (!PyData.eqv a b) else none
  | .lt, .int a, .int b => some (decide (a < b))
  | .le, .int a, .int b => some (decide (a ≤ b))
  | .gt, .int a, .int b => some (decide (b < a))
  | .ge, .int a, .int b => some (decide (b ≤ a))
  | .isN, a, .none => some (isNone a)
  | .notN, a, .none => some (!isNone a)
  | _, _, _ => none
def truthD : PyData → Option Bool
  | .none => some false
  | .bool b => some b
  | .int i => some (i != 0)
  | .str s => if s.length ≤ sizeLine then some ((s.length : Int) != 0) else none
  | .list xs => some (!xs.isEmpty)
  | .tuple xs => some (!xs.isEmpty)
  | .dict _ => none
def asInts : List PyData → Option (List Int)
  | [] => some []
  | .int i :: r => (asInts r).map (i :: ·)
  | _ :: _ => none
def asBools : List PyData → Option (List Bool)
  | [] => some []
  | .bool b :: r => (asBools r).map (b :: ·)
  | _ :: _ => none
def reprOk (d : PyData) : Bool := decide (d.depth ≤ 64) && d.showable && decide (d.shown.length ≤ sizeLine)
def rngD (n : Nat) : List PyData := (List.range n).map fun i : Nat => PyData.int (i : Int)
def biD : Bi → List PyData → Option PyData
  | .len, [.list xs] => some (.int xs.length)
  | .len, [.tuple xs] => some (.int xs.length)
  | .len, [.str s] => if s.length ≤ sizeLine then some (.int s.length) else none
  | .abs, [.int a] => some (.int (if a < 0 then -a else a))
  | .int, [.int a] => some (.int a)
  | .int, [.bool b] => some (.int (bI b))
  | .max, [.int a, .int b] => some (.int (if b > a then b else a))
  | .min, [.int a, .int b] => some (.int (if b < a then b else a))
  | .sum, [.list xs] => (asInts xs).map fun ns => .int ns.sum
  | .all, [.list xs] => (asBools xs).map fun bs => .bool (bs.all id)
  | .any, [.list xs] => (asBools xs).map fun bs => .bool (bs.any id)
  | .isInt, [.int _] => some (.bool true)
  | .isInt, [.bool _] => some (.bool true)
  | .isInt, [_] => some (.bool false)
  | .isBool, [.bool _] => some (.bool true)
  | .isBool, [_] => some (.bool false)
  | .isTup, [.tuple _] => some (.bool true)
  | .isTup, [_] => some (.bool false)
  | .repr, [d] => if reprOk d then some (.str d.shown) else none
  | .gcd, [.int a, .int b] => some (.int ((Nat.gcd a.natAbs b.natAbs : Nat) : Int))
  | .isqrt, [.int a] => if 0 ≤ a ∧ a.natAbs.log2 < 13000 then some (.int ((Float64.isqrt a.toNat : Nat) : Int)) else none
  | .tuple, [.list xs] => some (.tuple xs)
  | .tuple, [.tuple xs] => some (.tuple xs)
  | .list, [.list xs] => some (.list xs)
  | .list, [.tuple xs] => some (.list xs)
  | .listRange, [.int n] => if n.natAbs ≤ 10000000 then some (.list (rngD n.toNat)) else none
  | _, _ => none
/-- Python's index of a sequence -/
def ixD : PyData → PyData → Option PyData
  | .list xs, .int i => atI xs i
  | .tuple xs, .int i => atI xs i
  | _, _ => none
def cutD (xs : List PyData) (lo hi : Option Int) : List PyData := (xs.drop (HT.sIx xs.length 0 lo)).take (HT.sIx xs.length xs.length hi - HT.sIx xs.length 0 lo)
def optI : List A → Option (Option Int)
  | [] => some none
  | [.d (.int i)] => some (some i)
  | _ => none
def sliceD : PyData → Option Int → Option Int → Option PyData
  | .list xs, lo, hi => some (.list (cutD xs lo hi))
  | .tuple xs, lo, hi => if (cutD xs lo hi).length < xs.length then some (.tuple (cutD xs lo hi)) else none
  | _, _, _ => none
def revD : PyData → Option PyData
  | .list xs => some (.list xs.reverse)
  | .tuple xs => some (.tuple xs.reverse)
  | _ => none
/-- the data that is read of a value -/
def rd (S : Sto) : A → Option PyData
  | .d x => some x
  | .ref i => match S[i]? with
    | some (.lst ds) => some (.list ds)
    | _ => none
  | _ => none
def rds (S : Sto) : List A → Option (List PyData)
  | [] => some []
  | a :: r => (rd S a).bind fun x => (rds S r).map (x :: ·)
def itemsOf : PyData → Option (List PyData)
  | .list xs => some xs
  | .tuple xs => some xs
  | _ => none
/-- the values of written items: data alone -/
def datas : List A → Option (List PyData)
  | [] => some []
  | .d x :: r => (datas r).map (x :: ·)
  | _ :: _ => none
def setAll : List Nat → List PyData → En → Option En
  | [], [], σ => some σ
  | i :: is, x :: xs, σ => setAll is xs (σ.set i (some (.d x)))
  | _, _, _ => none
def setTg : Tg → PyData → En → Option En
  | .n i, x, σ => some (σ.set i (some (.d x)))
  | .t is, .tuple xs, σ => if is.length = xs.length then setAll is xs σ else none
  | _, _, _ => none
def setAllA : List Nat → List A → En → Option En
  | [], [], σ => some σ
  | i :: is, x :: xs, σ => setAllA is xs (σ.set i (some x))
  | _, _, _ => none
/-- a target takes any value -/
def setTgA : Tg → A → En → Option En
  | t, .d x, σ => setTg t x σ
  | .n i, x, σ => some (σ.set i (some x))
  | .t is, .tup xs, σ => if is.length = xs.length then setAllA is xs σ else none
  | _, _, _ => none
def wipeD (σ : En) : List Nat → En
  | [] => σ
  | v :: vs => (wipeD σ vs).set v none
def consO : Option PyData → List PyData → List PyData
  | some y, ys => y :: ys
  | none, ys => ys
/-- f: the element at an item, none where a test leaves it out -/
def lcGo (f : PyData → Sto → R (Option PyData)) : List PyData → Sto → R (List PyData)
  | [], S => .ok [] S
  | x :: xs, S => (f x S).bind fun y S1 => (lcGo f xs S1).bind fun ys S2 => .ok (consO y ys) S2
/-- no exception leaves a comprehension -/
def R.calm {α : Type} : R α → R α
  | .ok a S => .ok a S
  | _ => .no

def keepD (r : R A) : R (Option PyData) := r.bind fun z S => match z with
  | .d z => .ok (some z) S
  | _ => .no
def lcOne (tests : R (List A)) (elt : Sto → R A) : R (Option PyData) := (tests.bind fun bs S => match bs with
  | [] => keepD (elt S)
  | [b] => (match (rd S b).bind truthD with
    | some true => keepD (elt S)
    | some false => .ok none S
    | none => .no)
  | _ => .no).calm
/-- the numbers of a range -/
def rngOf : List A → Option (List PyData)
  | [.d (.int n)] => if n.natAbs ≤ 10000000 then some (rngD n.toNat) else none
  | [.d (.int a), .d (.int b)] => if a.natAbs ≤ 8000000 ∧ b.natAbs ≤ 8000000 then some ((List.range (b - a).toNat).map fun i : Nat => PyData.int (a + (i : Int))) else none
  | [.d (.int a), .d (.int b), .d (.int c)] => if a.natAbs ≤ 8000000 ∧ b.natAbs ≤ 8000000 ∧ c = -1 then some ((List.range (a - b).toNat).map fun i : Nat => PyData.int (a - (i : Int))) else none
  | _ => none
def zipD (xs ys : List PyData) : List PyData := (xs.zip ys).map fun p => .tuple [p.1, p.2]
def enumD (xs : List PyData) : List PyData := zipD (rngD xs.length) xs
/-- the kind of a walked thing: lists alike, tuples alike -/
def zipOf : PyData → PyData → Option (List PyData)
  | .list xs, .list ys => if xs.length ≤ sizeLine then some (zipD xs ys) else none
  | .tuple xs, .tuple ys => if xs.length ≤ sizeLine then some (zipD xs ys) else none
  | _, _ => none

def enumOf : PyData → Option (List PyData)
  | .list xs => if xs.length ≤ sizeLine then some (enumD xs) else none
  | .tuple xs => if xs.length ≤ sizeLine then some (enumD xs) else none
  | _ => none

/-- the lambdas of the def that made them: the room they want, what they do -/
structure LamC where
  l : Nat
  run : Nat → Sto → R A
def noLam : LamC := ⟨0, fun _ _ => .no⟩
/-- the defs that are called, the lambdas, how many turns a while may take, the room, the table of the def if it makes lambdas -/
structure Cfg where
  call : LamC → Nat → List A → Sto → R A
  lam : En → LamC
  fuel : Nat
  d : Nat
  tb : Option Nat := none
/-- within a comprehension -/
def Cfg.blk (c : Cfg) : Cfg := { c with lam := fun _ => noLam, tb := none }
def isNonA : A → Option Bool
  | .d .none => some true
  | .d _ => some false
  | .ref _ => some false
  | .tup _ => some false
  | .exc _ _ => some false
  | .lam _ => some false
def cmpA (S : Sto) : COp → A → A → Option Bool
  | .isN, x, .d .none => isNonA x
  | .notN, x, .d .none => (isNonA x).map (!·)
  | o, x, y => (rd S x).bind fun x => (rd S y).bind fun y => cmpD o x y
def ixA (S : Sto) : A → A → Option A
  | .tup as, .d (.int i) => atI as i
  | x, y => (rd S x).bind fun x => (rd S y).bind fun y => (ixD x y).map .d

mutual
def ev (c : Cfg) : Ex → En → Sto → R A
  | .k x, _, S => .ok (.d x) S
  | .v i, σ, S => R.opt S (σ[i]?.join)
  | .bin o a b, σ, S => (ev c a σ S).bind fun x S1 => (ev c b σ S1).bind fun y S2 => R.opt S2 ((rd S2 x).bind fun x => (rd S2 y).bind fun y => (binD o x y).map .d)
  | .neg a, σ, S => (ev c a σ S).bind fun x S1 => match x with
    | .d (.int i) => .ok (.d (.int (-i))) S1
    | _ => .no
  | .not a, σ, S => (ev c a σ S).bind fun x S1 => R.opt S1 (((rd S1 x).bind truthD).map fun b => .d (.bool (!b)))
  | .cmp o a b, σ, S => (ev c a σ S).bind fun x S1 => (ev c b σ S1).bind fun y S2 => R.opt S2 ((cmpA S2 o x y).map fun b => .d (.bool b))
  | .chain o o' a b d, σ, S => (ev c a σ S).bind fun x S1 => (ev c b σ S1).bind fun y S2 => match x, y with
    | .d x, .d y => (match cmpD o x y with
      | some true => (ev c d σ S2).bind fun z S3 => (match z with
        | .d z => R.opt S3 ((cmpD o' y z).map fun b => .d (.bool b))
        | _ => .no)
      | some false => .ok (.d (.bool false)) S2
      | none => .no)
    | _, _ => .no
  | .and a b, σ, S => (ev c a σ S).bind fun x S1 => match (rd S1 x).bind truthD with
    | some true => ev c b σ S1
    | some false => .ok x S1
    | none => .no
  | .or a b, σ, S => (ev c a σ S).bind fun x S1 => match (rd S1 x).bind truthD with
    | some true => .ok x S1
    | some false => ev c b σ S1
    | none => .no
  | .ite t a b, σ, S => (ev c t σ S).bind fun x S1 => match (rd S1 x).bind truthD with
    | some true => ev c a σ S1
    | some false => ev c b σ S1
    | none => .no
  | .tup xs, σ, S => (evs c xs σ S).bind fun as S1 => match datas as with
    | some ds => .ok (.d (.tuple ds)) S1
    | none => .ok (.tup as) S1
  | .lst xs, σ, S => (evs c xs σ S).bind fun as S1 => R.opt S1 ((datas as).map fun ds => .d (.list ds))
  | .lstM xs, σ, S => (evs c xs σ S).bind fun as S1 => match datas as with
    | some ds => .ok (.ref S1.length) (S1 ++ [.lst ds])
    | none => .no
  | .call f xs, σ, S => (evs c xs σ S).bind fun as S1 => c.call (c.lam σ) f as S1
  | .bi f xs, σ, S => (evs c xs σ S).bind fun as S1 => R.opt S1 ((rds S1 as).bind fun ds => (biD f ds).map .d)
  | .ix a b, σ, S => (ev c a σ S).bind fun x S1 => (ev c b σ S1).bind fun y S2 => R.opt S2 (ixA S2 x y)
  | .dix ks vs i, σ, S => (evs c vs σ S).calm.bind fun as S1 => (ev c i σ S1).calm.bind fun y S2 => match datas as, y with
    | some ds, .d (.int j) => R.opt S2 (((ks.zip ds).lookup j).map .d)
    | _, _ => .no
  | .slice a lo hi, σ, S => (ev c a σ S).bind fun x S1 => (evs c lo σ S1).calm.bind fun l S2 => (evs c hi σ S2).calm.bind fun h S3 =>
      R.opt S3 ((rd S3 x).bind fun x => (optI l).bind fun l => (optI h).bind fun h => (sliceD x l h).map .d)
  | .lc t own it e cs, σ, S => (evI c it σ S).bind fun xs S1 => (lcGo (fun y S => match setTg t y (wipeD σ own) with
          | some σ' => lcOne (evs c.blk cs σ' S) fun S1 => ev c.blk e σ' S1
          | none => .no) xs S1).bind fun ys S2 => .ok (.d (.list ys)) S2
  | .own a, σ, S => (ev c a σ S).bind fun x S1 => match x with
    | .d (.list ds) => .ok (.ref S1.length) (S1 ++ [.lst ds])
    | _ => .no
  | .repF a n, σ, S => (ev c a σ S).bind fun x S1 => (ev c n σ S1).bind fun y S2 => match x, y with
    | .d (.list ds), .d (.int k) => if repOk ds.length k then .ok (.d (.list (repD ds k.toNat))) S2 else .no
    | _, _ => .no
  | .catF a b, σ, S => (ev c a σ S).bind fun x S1 => (ev c b σ S1).bind fun y S2 => match x, y with
    | .ref r, .d (.list es) => (match S2[r]? with
      | some (.lst ds) => if ds.length + es.length ≤ sizeLine then .ok (.d (.list (ds ++ es))) S2 else .no
      | _ => .no)
    | _, _ => .no
  | .lstA xs, σ, S => (evs c xs σ S).bind fun as S1 => .ok (.ref S1.length) (S1 ++ [.lsa as])
  | .rev a, σ, S => (ev c a σ S).bind fun x S1 => R.opt S1 ((rd S1 x).bind fun x => (revD x).map .d)
  | .mk k t j, _, S => if c.tb = some j then (match S[t]? with
    | some (.tab j') => if j' = j then .ok (.lam k) S else .no
    | _ => .no) else .no
  | .callv a, σ, S => (ev c a σ S).bind fun x S1 => match x with
    | .lam k => if (c.lam σ).l ≤ c.d then (c.lam σ).run k S1 else .no
    | _ => .no
  | .exv a, σ, S => (ev c a σ S).bind fun x S1 => match x with
    | .exc _ p => .ok (.d p) S1
    | _ => .no
  | .isC a cs, σ, S => (ev c a σ S).bind fun x S1 => match x with
    | .exc k _ => .ok (.d (.bool (cs.contains k))) S1
    | _ => .no
  | .isV a, σ, S => (ev c a σ S).bind fun x S1 => match x with
    | .exc _ _ => .ok (.d (.bool true)) S1
    | _ => .no
def evI (c : Cfg) : Itr → En → Sto → R (List PyData)
  | .e a, σ, S => (ev c a σ S).bind fun x S1 => match x with
    | .d x => R.opt S1 (itemsOf x)
    | _ => .no
  | .rng xs, σ, S => (evs c xs σ S).bind fun as S1 => R.opt S1 (rngOf as)
  | .zip a b, σ, S => (ev c a σ S).bind fun x S1 => (ev c b σ S1).bind fun y S2 => match x, y with
    | .d x, .d y => R.opt S2 (zipOf x y)
    | _, _ => .no
  | .enum a, σ, S => (ev c a σ S).bind fun x S1 => match x with
    | .d x => R.opt S1 (enumOf x)
    | _ => .no
def evs (c : Cfg) : Exs → En → Sto → R (List A)
  | .nil, _, S => .ok [] S
  | .cons a r, σ, S => (ev c a σ S).bind fun x S1 => (evs c r σ S1).bind fun xs S2 => .ok (x :: xs) S2
end

/-- how a statement ends -/
inductive Fl where
  | nx (σ : En)
  | rt (a : A)
  | bk (σ : En)
  | ct (σ : En)
def whlGo (t : En → Sto → R Bool) (b : En → Sto → R Fl) : Nat → En → Sto → R Fl
  | 0, _, _ => .no
  | n + 1, σ, S => (t σ S).bind fun k S1 => if k = true then (b σ S1).bind fun f S2 => match f with
      | .nx σ' => whlGo t b n σ' S2
      | .ct σ' => whlGo t b n σ' S2
      | .bk σ' => .ok (.nx σ') S2
      | .rt a => .ok (.rt a) S2
    else .ok (.nx σ) S1
/-- xs: what is left -/
def forGo (b : PyData → En → Sto → R Fl) : List PyData → En → Sto → R Fl
  | [], σ, S => .ok (.nx σ) S
  | x :: xs, σ, S => (b x σ S).bind fun f S2 => match f with
      | .nx σ' => forGo b xs σ' S2
      | .ct σ' => forGo b xs σ' S2
      | .bk σ' => .ok (.nx σ') S2
      | .rt a => .ok (.rt a) S2
/-- over the list at r of the store, from its place i on -/
def forLGo (b : A → En → Sto → R Fl) (r : Nat) : Nat → Nat → En → Sto → R Fl
  | 0, _, _, _ => .no
  | n + 1, i, σ, S => match S[r]? with
    | some (.lsa as) => (match as[i]? with
      | some x => (b x σ S).bind fun f S2 => (match f with
        | .nx σ' => forLGo b r n (i + 1) σ' S2
        | .ct σ' => forLGo b r n (i + 1) σ' S2
        | .bk σ' => .ok (.nx σ') S2
        | .rt a => .ok (.rt a) S2)
      | none => .ok (.nx σ) S)
    | _ => .no
/-- a list stands at r -/
def isL (S : Sto) (r : Nat) : Bool := match S[r]? with
  | some (.lst _) => true
  | some (.lsa _) => true
  | _ => false
mutual
def st (c : Cfg) : Sm → En → Sto → R Fl
  | .set i e, σ, S => (ev c e σ S).bind fun x S1 => .ok (.nx (σ.set i (some x))) S1
  | .par i j a b, σ, S => (ev c a σ S).bind fun x S1 => (ev c b σ S1).bind fun y S2 => .ok (.nx ((σ.set i (some x)).set j (some y))) S2
  | .par3 i j l a b e, σ, S => (ev c a σ S).bind fun x S1 => (ev c b σ S1).bind fun y S2 => (ev c e σ S2).bind fun z S3 => .ok (.nx (((σ.set i (some x)).set j (some y)).set l (some z))) S3
  | .unp is e, σ, S => (ev c e σ S).bind fun x S1 => R.opt S1 ((setTgA (.t is) x σ).map .nx)
  | .six a i e, σ, S => (ev c e σ S).bind fun y S1 => (ev c a σ S1).bind fun x S2 => (ev c i σ S2).bind fun j S3 => match x, j, y with
    | .ref r, .d (.int j), .d y => (match S3[r]? with
      | some (.lst ds) => (match ixN ds.length j with
        | some n => .ok (.nx σ) (S3.set r (.lst (ds.set n y)))
        | none => .no)
      | _ => .no)
    | _, _, _ => .no
  | .ret e, σ, S => (ev c e σ S).bind fun x S1 => .ok (.rt x) S1
  | .retN, _, S => .ok (.rt (.d .none)) S
  | .ife t a b, σ, S => (ev c t σ S).bind fun x S1 => match (rd S1 x).bind truthD with
    | some true => sts c a σ S1
    | some false => sts c b σ S1
    | none => .no
  | .whl t b, σ, S => whlGo (fun σ S => (ev c t σ S).bind fun x S1 => R.opt S1 ((rd S1 x).bind truthD)) (fun σ S => sts c b σ S) c.fuel σ S
  | .for_ t it b, σ, S => (evI c it σ S).bind fun xs S1 => forGo (fun y σ S => match setTg t y σ with
        | some σ' => sts c b σ' S
        | none => .no) xs σ S1
  | .forL t it b, σ, S => (ev c it σ S).bind fun x S1 => match x with
    | .ref r => forLGo (fun y σ S => match setTgA t y σ with
        | some σ' => sts c b σ' S
        | none => .no) r c.fuel 0 σ S1
    | _ => .no
  | .tryS i e cs n j, σ, S => match ev c e σ S with
    | .ok x S1 => .ok (.nx (σ.set i (some x))) S1
    | .ex k p S1 => if cs.contains k then .ok (.nx ((σ.set j (some (.exc k p))).set n none)) S1 else .no
    | .no => .no
  | .tryR i e cs _, σ, S => match ev c e σ S with
    | .ok x S1 => (match i with
      | some i => .ok (.nx (σ.set i (some x))) S1
      | none => .ok (.rt x) S1)
    | .ex k p S1 => if cs.contains k then .ok (.rt (.tup [.exc k p, .d .none])) S1 else .no
    | .no => .no
  | .nev, _, _ => .no
  | .expr e, σ, S => (ev c e σ S).bind fun _ S1 => .ok (.nx σ) S1
  | .app a e, σ, S => (ev c a σ S).bind fun x S1 => match x with
    | .ref r => if isL S1 r = true then (ev c e σ S1).bind fun y S2 => (match S2[r]? with
      | some (.lst ds) => (match y with
        | .d y => if ds.length < sizeLine then .ok (.nx σ) (S2.set r (.lst (ds ++ [y]))) else .no
        | _ => .no)
      | some (.lsa as) => if as.length < sizeLine then .ok (.nx σ) (S2.set r (.lsa (as ++ [y]))) else .no
      | _ => .no) else .no
    | _ => .no
  | .pass, σ, S => .ok (.nx σ) S
  | .brk, σ, S => .ok (.bk σ) S
  | .cont, σ, S => .ok (.ct σ) S
  | .raise k e, σ, S => if 2 ≤ c.d then (ev c e σ S).bind fun x S1 => match x with
    | .d p => .ex k p S1
    | _ => .no else .no
def sts (c : Cfg) : Ss → En → Sto → R Fl
  | .nil, σ, S => .ok (.nx σ) S
  | .cons a r, σ, S => (st c a σ S).bind fun f S1 => match f with
    | .nx σ' => sts c r σ' S1
    | f => .ok f S1
end

/-- how a def treats the store: as it is; not at all (data in, data out); what it hands back is kept as a list of the store; it makes lambdas -/
inductive Md where
  | std
  | pure
  | keep
  | me (j : Nat)
/-- a def: how many names, its body -/
structure Fn where
  np : Nat
  nn : Nat
  body : Ss
  md : Md := .pure
/-! what a def hands back leaves its own lists behind -/
mutual
def frz (S : Sto) (n : Nat) : A → Option A
  | .d x => some (.d x)
  | .ref i => if i < n then some (.ref i) else match S[i]? with
    | some (.lst ds) => some (.d (.list ds))
    | _ => none
  | .tup as => (frzs S n as).map .tup
  | .exc c p => some (.exc c p)
  | .lam k => some (.lam k)
def frzs (S : Sto) (n : Nat) : List A → Option (List A)
  | [] => some []
  | a :: r => (frz S n a).bind fun x => (frzs S n r).map (x :: ·)
end
/-- an object that leans on no other and on no lambda -/
def plainO : O → Bool
  | .lst _ => true
  | .tab _ => true
  | .lsa _ => false
def plainA : A → Bool
  | .d _ => true
  | .ref _ => true
  | _ => false
mutual
def closedA (n : Nat) : A → Bool
  | .d _ => true
  | .ref i => decide (i < n)
  | .tup as => closedL n as
  | .exc _ _ => true
  | .lam _ => true
def closedL (n : Nat) : List A → Bool
  | [] => true
  | a :: r => closedA n a && closedL n r
end
/-- an object that leans on none from n on -/
def closedO (n : Nat) : O → Bool
  | .lst _ => true
  | .tab _ => true
  | .lsa as => closedL n as
def cut (n : Nat) (S : Sto) (r : R A) : R A := if (S.take n).all (closedO n) then r else .no
def fin (n : Nat) (a : A) (S : Sto) : R A := match frz S n a with
  | some a' => cut n S (.ok a' (S.take n))
  | none => .no
def outOf (n : Nat) : R Fl → R A
  | .ok (.rt a) S => fin n a S
  | .ok (.nx _) S => fin n (.d .none) S
  | .ok _ _ => .no
  | .ex k p S => cut n S (.ex k p (S.take n))
  | .no => .no
def outKeep : R Fl → R A
  | .ok (.rt a) S => .ok a S
  | .ok (.nx _) S => .ok (.d .none) S
  | .ok _ _ => .no
  | .ex k p S => .ex k p S
  | .no => .no
/-- the store was not looked at -/
def outPure (S0 : Sto) : R Fl → R A
  | .ok (.rt a) S => (match frz S 0 a with
    | some (.d x) => .ok (.d x) S0
    | _ => .no)
  | .ok (.nx _) _ => .ok (.d .none) S0
  | .ok _ _ => .no
  | .ex k p _ => .ex k p S0
  | .no => .no
/-- no lambda leaves the def that makes them -/
def outMe : R A → R A
  | .ok (.d x) S => if S.all plainO then .ok (.d x) S else .no
  | .ok _ _ => .no
  | .ex k p S => if S.all plainO then .ex k p S else .no
  | .no => .no
def start (nn : Nat) (as : List A) : En := as.map some ++ List.replicate (nn - as.length) none
def callF (T : Nat → Option Fn) (L : Nat → Option (Nat × Ex)) (fuel : Nat) : Nat → LamC → Nat → List A → Sto → R A
  | 0, _, _, _, _ => .no
  | d + 1, lm, k, as, S => match T k with
    | some f => if as.length = f.np then (match f.md with
        | .std => outOf S.length (sts ⟨callF T L fuel d, fun _ => lm, fuel, d, none⟩ f.body (start f.nn as) S)
        | .keep => outKeep (sts ⟨callF T L fuel d, fun _ => lm, fuel, d, none⟩ f.body (start f.nn as) S)
        | .pure => (match datas as with
          | some _ => outPure S (sts ⟨callF T L fuel d, fun _ => noLam, fuel, d, none⟩ f.body (start f.nn as) [])
          | none => .no)
        | .me j => if S.all plainO ∧ as.all plainA then outMe (outOf S.length (sts ⟨callF T L fuel d, fun σ => (match d with
            | d' + 3 => ⟨d' + 1, fun k S => match L k with
              | some (j', e) => if j' = j then ev ⟨callF T L fuel d', fun _ => noLam, fuel, d', none⟩ e σ S else .no
              | none => .no⟩
            | _ => noLam), fuel, d, some j⟩ f.body (start f.nn as) S)) else .no) else .no
    | none => .no
end Pv
set_option Elab.async false
set_option maxRecDepth 100000
/-! Pv2: how data lies in the heap. -/
namespace Pv
open PySem L2

/-- a tuple, a list of the written part -/
def KTup (K : PySem.W.Frag) (a : Addr) (xs : List V) : Prop :=
  ∃ (o : Obj) (its : Array Value) (n : Nat), K.lookup a = some o ∧ o.cls = .type "tuple" ∧ o.data = .seq its n ∧ its.size ≤ sizeLine ∧ Vals xs its.toList
def KLst (K : PySem.W.Frag) (a : Addr) (xs : List V) : Prop :=
  ∃ (o : Obj) (its : Array Value) (n : Nat), K.lookup a = some o ∧ o.cls = .type "list" ∧ o.dict = none ∧ o.data = .seq its n ∧ its.size ≤ sizeLine ∧ Vals xs its.toList
mutual
/-- v is the data x, none of whose objects stands in av -/
inductive Rep (K : PySem.W.Frag) (H : Hp) (av : List Addr) : PyData → V → Prop
  | non : Rep K H av .none .non
  | bool (b : Bool) : Rep K H av (.bool b) (.bl b)
  | int (i : Int) : Rep K H av (.int i) (.int i)
  | str (s : Str) : Rep K H av (.str s) (.str s)
  | tupH {a : Addr} {vs : List V} {ds : List PyData} (h : Rd H a (.tup vs)) (n : a ∉ av) (r : RepAll K H av ds vs) : Rep K H av (.tuple ds) (.ref a)
  | tupK {a : Addr} {vs : List V} {ds : List PyData} (h : KTup K a vs) (r : RepAll K H av ds vs) : Rep K H av (.tuple ds) (.ref a)
  | lstH {a : Addr} {vs : List V} {ds : List PyData} (h : Rd H a (.lst vs)) (n : a ∉ av) (r : RepAll K H av ds vs) : Rep K H av (.list ds) (.ref a)
  | lstK {a : Addr} {vs : List V} {ds : List PyData} (h : KLst K a vs) (r : RepAll K H av ds vs) : Rep K H av (.list ds) (.ref a)
inductive RepAll (K : PySem.W.Frag) (H : Hp) (av : List Addr) : List PyData → List V → Prop
  | nil : RepAll K H av [] []
  | cons {d : PyData} {ds : List PyData} {v : V} {vs : List V} (h : Rep K H av d v) (r : RepAll K H av ds vs) : RepAll K H av (d :: ds) (v :: vs)
end
section
variable {K : PySem.W.Frag} {H H' : Hp} {av av' m ms : List Addr}
/-- from H to H': all but m's objects stay, ms are new -/
structure Evo (m : List Addr) (H : Hp) (ms : List Addr) (H' : Hp) : Prop where
  keep : ∀ a o, H a = some o → a ∉ m → H' a = some o
  new : ∀ p ∈ ms, H p = none
theorem Evo.refl : Evo m H [] H := ⟨fun _ _ h _ => h, fun _ h => nomatch h⟩
theorem Rd.evo {a : Addr} {u : HO} (r : Rd H a u) (e : Evo m H ms H') (n : a ∉ m) : Rd H' a u ∧ a ∉ ms := by
  rcases r with r | ⟨o, r⟩
  · exact ⟨.inl (e.keep _ _ r n), fun z => by rw [e.new a z] at r; cases r⟩
  · exact ⟨.inr ⟨o, e.keep _ _ r n⟩, fun z => by rw [e.new a z] at r; cases r⟩
mutual
theorem Rep.evo (e : Evo m H ms H') (sub : ∀ a ∈ m, a ∈ av) : ∀ {d : PyData} {v : V}, Rep K H av d v → Rep K H' (av ++ ms) d v
  | _, _, .non => .non
  | _, _, .bool b => .bool b
  | _, _, .int i => .int i
  | _, _, .str s => .str s
  | _, _, .tupH h n r => by
    obtain ⟨h1, h2⟩ := Rd.evo h e fun z => n (sub _ z)
    exact .tupH h1 (by rw [List.mem_append]; exact fun z => z.elim n h2) (RepAll.evo e sub r)
  | _, _, .tupK h r => .tupK h (RepAll.evo e sub r)
  | _, _, .lstH h n r => by
    obtain ⟨h1, h2⟩ := Rd.evo h e fun z => n (sub _ z)
    exact .lstH h1 (by rw [List.mem_append]; exact fun z => z.elim n h2) (RepAll.evo e sub r)
  | _, _, .lstK h r => .lstK h (RepAll.evo e sub r)
theorem RepAll.evo (e : Evo m H ms H') (sub : ∀ a ∈ m, a ∈ av) : ∀ {ds : List PyData} {vs : List V}, RepAll K H av ds vs → RepAll K H' (av ++ ms) ds vs
  | _, _, .nil => .nil
  | _, _, .cons h r => .cons (Rep.evo e sub h) (RepAll.evo e sub r)
end
mutual
theorem Rep.less (s : ∀ a ∈ av', a ∈ av) : ∀ {d : PyData} {v : V}, Rep K H av d v → Rep K H av' d v
  | _, _, .non => .non
  | _, _, .bool b => .bool b
  | _, _, .int i => .int i
  | _, _, .str s => .str s
  | _, _, .tupH h n r => .tupH h (fun z => n (s _ z)) (RepAll.less s r)
  | _, _, .tupK h r => .tupK h (RepAll.less s r)
  | _, _, .lstH h n r => .lstH h (fun z => n (s _ z)) (RepAll.less s r)
  | _, _, .lstK h r => .lstK h (RepAll.less s r)
theorem RepAll.less (s : ∀ a ∈ av', a ∈ av) : ∀ {ds : List PyData} {vs : List V}, RepAll K H av ds vs → RepAll K H av' ds vs
  | _, _, .nil => .nil
  | _, _, .cons h r => .cons (Rep.less s h) (RepAll.less s r)
end
mutual
theorem Rep.dp : ∀ {d : PyData} {v : V}, Rep K H av d v → Dp K H v d
  | _, _, .non => .non
  | _, _, .bool b => .bl b
  | _, _, .int i => .int i
  | _, _, .str s => .str s
  | _, _, .tupH h _ r => .tup (.inl h) (RepAll.dp r)
  | _, _, .tupK h r => .tup (.inr h) (RepAll.dp r)
  | _, _, .lstH h _ r => .lst (.inl h) (RepAll.dp r)
  | _, _, .lstK h r => .lst (.inr h) (RepAll.dp r)
theorem RepAll.dp : ∀ {ds : List PyData} {vs : List V}, RepAll K H av ds vs → DpAll K H vs ds
  | _, _, .nil => .nil
  | _, _, .cons h r => .cons (Rep.dp h) (RepAll.dp r)
end
theorem RepAll.length : ∀ {ds : List PyData} {vs : List V}, RepAll K H av ds vs → ds.length = vs.length
  | _, _, .nil => rfl
  | _, _, .cons _ r => by simp [RepAll.length r]
theorem RepAll.get : ∀ {ds : List PyData} {vs : List V} {i : Nat} {d : PyData}, RepAll K H av ds vs → ds[i]? = some d → ∃ v, vs[i]? = some v ∧ Rep K H av d v
  | _, _, i, _, .nil, e => by simp at e
  | _, _, 0, _, .cons h _, e => by simp at e; subst e; exact ⟨_, rfl, h⟩
  | _, _, i + 1, _, .cons _ r, e => by
    obtain ⟨v, h1, h2⟩ := RepAll.get (i := i) r (by simpa using e)
    exact ⟨v, by simpa using h1, h2⟩
theorem RepAll.get' : ∀ {ds : List PyData} {vs : List V} {i : Nat} {v : V}, RepAll K H av ds vs → vs[i]? = some v → ∃ d, ds[i]? = some d ∧ Rep K H av d v
  | _, _, i, _, .nil, e => by simp at e
  | _, _, 0, _, .cons h _, e => by simp at e; subst e; exact ⟨_, rfl, h⟩
  | _, _, i + 1, _, .cons _ r, e => by
    obtain ⟨v, h1, h2⟩ := RepAll.get' (i := i) r (by simpa using e)
    exact ⟨v, by simpa using h1, h2⟩
theorem RepAll.append : ∀ {ds es : List PyData} {vs ws : List V}, RepAll K H av ds vs → RepAll K H av es ws → RepAll K H av (ds ++ es) (vs ++ ws)
  | _, _, _, _, .nil, s => s
  | _, _, _, _, .cons h r, s => .cons h (RepAll.append r s)
theorem RepAll.set {d : PyData} {v : V} (x : Rep K H av d v) : ∀ {ds : List PyData} {vs : List V} (i : Nat), RepAll K H av ds vs → RepAll K H av (ds.set i d) (vs.set i v)
  | _, _, _, .nil => .nil
  | _, _, 0, .cons _ r => .cons x r
  | _, _, i + 1, .cons h r => .cons h (RepAll.set x i r)
theorem RepAll.take : ∀ {ds : List PyData} {vs : List V} (n : Nat), RepAll K H av ds vs → RepAll K H av (ds.take n) (vs.take n)
  | _, _, 0, _ => .nil
  | _, _, _ + 1, .nil => .nil
  | _, _, n + 1, .cons h r => .cons h (RepAll.take n r)
theorem RepAll.drop : ∀ {ds : List PyData} {vs : List V} (n : Nat), RepAll K H av ds vs → RepAll K H av (ds.drop n) (vs.drop n)
  | _, _, 0, r => r
  | _, _, _ + 1, .nil => .nil
  | _, _, n + 1, .cons _ r => RepAll.drop n r
theorem rep_rngD (n : Nat) : RepAll K H av (rngD n) ((List.range n).map fun i : Nat => V.int (i : Int)) := by
  have : ∀ l : List Nat, RepAll K H av (l.map fun i : Nat => PyData.int (i : Int)) (l.map fun i : Nat => V.int (i : Int)) := fun l => by
    induction l with
    | nil => exact .nil
    | cons a l ih => exact .cons (.int _) ih
  exact this _

end
/-! ### what is more than data -/
/-- a lambda's text -/
structure LamD where
  own : Nat
  q : Str
  params : Arguments
  body : Expr
  scope : Scope
/-- where things lie: the written part; the cells of the def whose lambdas they are; the classes of the exceptions; the lambdas; the tables of code objects -/
structure Kc where
  K : PySem.W.Frag
  cl : List (Str × Addr)
  ca : Nat → Option Addr
  lm : Nat → Option LamD
  tb : Nat → Option (Addr × Str)
/-- an exception object at a: its class, its dict -/
def ExcH (cls : Value) (dd a : Addr) : HO := .ext fun h => ∃ (oe : Obj) (vs : Array Value), h.get? a = some oe ∧ Zc cls (some dd) oe ∧ oe.data = .fields vs
/-- a lambda's function object at a -/
def LamH (L : LamD) (cl : List (Str × Addr)) (a c' : Addr) : HO := .ext fun h => ∃ (pm ctv : Value), h.get? a = some (PySem.W.kla_obj "<lambda>" L.q L.params L.body L.scope (cloFrom cl L.scope.names []) pm c' ctv)
mutual
def RepA (Z : Kc) (H : Hp) (m av : List Addr) : A → V → Prop
  | .d x, v => Rep Z.K H av x v
  | .ref i, v => ∃ a, m[i]? = some a ∧ v = .ref a
  | .tup as, v => ∃ a vs, v = .ref a ∧ H a = some (.tup vs) ∧ a ∉ av ∧ RepL Z H m av as vs
  | .exc c p, v => ∃ (a C dd : Addr) (fs : List (Str × V)) (w : V), v = .ref a ∧ Z.ca c = some C ∧ H a = some (ExcH (.ref C) dd a) ∧ a ∉ av ∧ H dd = some (.xd fs) ∧ dd ∉ av ∧ fs.lookup ("value" : Str) = some w ∧ Rep Z.K H av p w
  | .lam k, v => ∃ (a c' : Addr) (L : LamD), v = .ref a ∧ Z.lm k = some L ∧ H a = some (LamH L Z.cl a c') ∧ a ∉ av ∧ H c' = some (LamX.CodeO c' L.q) ∧ c' ∉ av
def RepL (Z : Kc) (H : Hp) (m av : List Addr) : List A → List V → Prop
  | [], [] => True
  | x :: xs, v :: vs => RepA Z H m av x v ∧ RepL Z H m av xs vs
  | _, _ => False
end
section
variable {Z : Kc} {H H' : Hp} {av av' m ms : List Addr}
theorem Evo.at_ {a : Addr} {u : HO} (e : Evo m H ms H') (h : H a = some u) (n : a ∉ m) : H' a = some u ∧ a ∉ ms := ⟨e.keep _ _ h n, fun z => by rw [e.new a z] at h; cases h⟩
theorem not_app {a : Addr} {l k : List Addr} (h1 : a ∉ l) (h2 : a ∉ k) : a ∉ l ++ k := fun z => (List.mem_append.mp z).elim h1 h2
mutual
theorem RepA.evo0 (sub : ∀ a ∈ m, a ∈ av) (e : Evo m H ms H') : ∀ {x : A} {v : V}, RepA Z H m av x v → RepA Z H' (m ++ ms) (av ++ ms) x v
  | .d _, _, r => Rep.evo e sub r
  | .ref i, _, r => by
    obtain ⟨a, h1, h2⟩ := r
    refine ⟨a, ?_, h2⟩
    rw [List.getElem?_append_left (List.getElem?_eq_some_iff.mp h1).1]
    exact h1
  | .tup as, _, r => by
    obtain ⟨a, vs, e1, h, n, t⟩ := r
    obtain ⟨h1, h2⟩ := e.at_ h fun z => n (sub _ z)
    exact ⟨a, vs, e1, h1, not_app n h2, RepL.evo0 sub e t⟩
  | .exc c p, _, r => by
    obtain ⟨a, C, dd, fs, w, e1, e2, h, n, h3, n3, e4, t⟩ := r
    obtain ⟨h1, h2⟩ := e.at_ h fun z => n (sub _ z)
    obtain ⟨h5, h6⟩ := e.at_ h3 fun z => n3 (sub _ z)
    exact ⟨a, C, dd, fs, w, e1, e2, h1, not_app n h2, h5, not_app n3 h6, e4, Rep.evo e sub t⟩
  | .lam k, _, r => by
    obtain ⟨a, c', L, e1, e2, h, n, h3, n3⟩ := r
    obtain ⟨h1, h2⟩ := e.at_ h fun z => n (sub _ z)
    obtain ⟨h5, h6⟩ := e.at_ h3 fun z => n3 (sub _ z)
    exact ⟨a, c', L, e1, e2, h1, not_app n h2, h5, not_app n3 h6⟩
theorem RepL.evo0 (sub : ∀ a ∈ m, a ∈ av) (e : Evo m H ms H') : ∀ {xs : List A} {vs : List V}, RepL Z H m av xs vs → RepL Z H' (m ++ ms) (av ++ ms) xs vs
  | [], [], _ => trivial
  | [], _ :: _, r => r.elim
  | _ :: _, [], r => r.elim
  | _ :: _, _ :: _, r => ⟨RepA.evo0 sub e r.1, RepL.evo0 sub e r.2⟩
end
mutual
theorem RepA.less (s : ∀ a ∈ av', a ∈ av) : ∀ {x : A} {v : V}, RepA Z H m av x v → RepA Z H m av' x v
  | .d _, _, r => Rep.less s r
  | .ref _, _, r => r
  | .tup as, _, r => by
    obtain ⟨a, vs, e1, h, n, t⟩ := r
    exact ⟨a, vs, e1, h, fun z => n (s _ z), RepL.less s t⟩
  | .exc c p, _, r => by
    obtain ⟨a, C, dd, fs, w, e1, e2, h, n, h3, n3, e4, t⟩ := r
    exact ⟨a, C, dd, fs, w, e1, e2, h, fun z => n (s _ z), h3, fun z => n3 (s _ z), e4, Rep.less s t⟩
  | .lam k, _, r => by
    obtain ⟨a, c', L, e1, e2, h, n, h3, n3⟩ := r
    exact ⟨a, c', L, e1, e2, h, fun z => n (s _ z), h3, fun z => n3 (s _ z)⟩
theorem RepL.less (s : ∀ a ∈ av', a ∈ av) : ∀ {xs : List A} {vs : List V}, RepL Z H m av xs vs → RepL Z H m av' xs vs
  | [], [], _ => trivial
  | [], _ :: _, r => r.elim
  | _ :: _, [], r => r.elim
  | _ :: _, _ :: _, r => ⟨RepA.less s r.1, RepL.less s r.2⟩
end
mutual
/-- what leans on none from m's end on -/
theorem RepA.short : ∀ {x : A} {v : V}, RepA Z H (m ++ ms) av x v → closedA m.length x = true → RepA Z H m av x v
  | .d _, _, r, _ => r
  | .ref i, _, r, c => by
    obtain ⟨a, h1, h2⟩ := r
    refine ⟨a, ?_, h2⟩
    rw [List.getElem?_append_left (of_decide_eq_true c)] at h1
    exact h1
  | .tup as, _, r, c => by
    obtain ⟨a, vs, e1, h, n, t⟩ := r
    exact ⟨a, vs, e1, h, n, RepL.short t c⟩
  | .exc _ _, _, r, _ => r
  | .lam _, _, r, _ => r
theorem RepL.short : ∀ {xs : List A} {vs : List V}, RepL Z H (m ++ ms) av xs vs → closedL m.length xs = true → RepL Z H m av xs vs
  | [], [], _, _ => trivial
  | [], _ :: _, r, _ => r.elim
  | _ :: _, [], r, _ => r.elim
  | _ :: _, _ :: _, r, c => ⟨RepA.short r.1 (Bool.and_eq_true_iff.mp c).1, RepL.short r.2 (Bool.and_eq_true_iff.mp c).2⟩
end
theorem RepL.length : ∀ {xs : List A} {vs : List V}, RepL Z H m av xs vs → xs.length = vs.length
  | [], [], _ => rfl
  | [], _ :: _, r => r.elim
  | _ :: _, [], r => r.elim
  | _ :: _, _ :: _, r => by simp [RepL.length r.2]
theorem RepL.get : ∀ {xs : List A} {vs : List V} {i : Nat} {x : A}, RepL Z H m av xs vs → xs[i]? = some x → ∃ v, vs[i]? = some v ∧ RepA Z H m av x v
  | [], [], i, _, _, e => by simp at e
  | [], _ :: _, _, _, r, _ => r.elim
  | _ :: _, [], _, _, r, _ => r.elim
  | _ :: _, _ :: _, 0, _, r, e => by simp at e; subst e; exact ⟨_, rfl, r.1⟩
  | _ :: _, _ :: _, i + 1, _, r, e => by
    obtain ⟨v, h1, h2⟩ := RepL.get (i := i) r.2 (by simpa using e)
    exact ⟨v, by simpa using h1, h2⟩
theorem RepL.get' : ∀ {xs : List A} {vs : List V} {i : Nat} {v : V}, RepL Z H m av xs vs → vs[i]? = some v → ∃ x, xs[i]? = some x ∧ RepA Z H m av x v
  | [], [], i, _, _, e => by simp at e
  | [], _ :: _, _, _, r, _ => r.elim
  | _ :: _, [], _, _, r, _ => r.elim
  | _ :: _, _ :: _, 0, _, r, e => by simp at e; subst e; exact ⟨_, rfl, r.1⟩
  | _ :: _, _ :: _, i + 1, _, r, e => by
    obtain ⟨x, h1, h2⟩ := RepL.get' (i := i) r.2 (by simpa using e)
    exact ⟨x, by simpa using h1, h2⟩
theorem RepL.append : ∀ {xs ys : List A} {vs ws : List V}, RepL Z H m av xs vs → RepL Z H m av ys ws → RepL Z H m av (xs ++ ys) (vs ++ ws)
  | [], _, [], _, _, s => s
  | [], _, _ :: _, _, r, _ => r.elim
  | _ :: _, _, [], _, r, _ => r.elim
  | _ :: _, _, _ :: _, _, r, s => ⟨r.1, RepL.append r.2 s⟩
end
/-- the object of the store at a -/
def ObjR (Z : Kc) (H : Hp) (m av : List Addr) (o : O) (a : Addr) : Prop := match o with
  | .lst ds => ∃ vs, H a = some (.lst vs) ∧ RepAll Z.K H av ds vs
  | .lsa as => ∃ vs, H a = some (.lst vs) ∧ RepL Z H m av as vs
  | .tab j => ∃ q, Z.tb j = some (a, q) ∧ LamX.TabS H a q
/-- M: where all objects lie -/
inductive StoR (Z : Kc) (H : Hp) (M av : List Addr) : Sto → List Addr → Prop
  | nil : StoR Z H M av [] []
  | cons {o : O} {S : Sto} {a : Addr} {m : List Addr} (h : ObjR Z H M av o a) (r : StoR Z H M av S m) : StoR Z H M av (o :: S) (a :: m)
/-- the names' values -/
inductive EnR (Z : Kc) (H : Hp) (m av : List Addr) : En → St → Prop
  | nil : EnR Z H m av [] []
  | val {x : A} {v : V} {σd : En} {σ : St} (h : RepA Z H m av x v) (r : EnR Z H m av σd σ) : EnR Z H m av (some x :: σd) (some v :: σ)
  | emp {o : Option V} {σd : En} {σ : St} (r : EnR Z H m av σd σ) : EnR Z H m av (none :: σd) (o :: σ)
/-- the store lies at m; ou: the names of the def whose lambdas are about -/
structure Rel (Z : Kc) (ou : Option (En × St)) (m av : List Addr) (H : Hp) (S : Sto) : Prop where
  sub : ∀ a ∈ m, a ∈ av
  live : ∀ a ∈ av, ∃ o, H a = some o
  noc : ∀ a ∈ av, ∀ c, H a ≠ some (LamX.CodeO a c)
  nd : m.Nodup
  sto : StoR Z H m av S m
  ou : ∀ p, ou = some p → EnR Z H m av p.1 p.2
section
variable {Z : Kc} {ou : Option (En × St)} {H H' : Hp} {av av' m ms M M' : List Addr}
theorem ObjR.live {o : O} {a : Addr} (h : ObjR Z H m av o a) : ∃ u, H a = some u := by
  cases o with
  | lst ds => obtain ⟨_, h, _⟩ := h; exact ⟨_, h⟩
  | lsa as => obtain ⟨_, h, _⟩ := h; exact ⟨_, h⟩
  | tab j => obtain ⟨_, _, _, h, _⟩ := h; exact ⟨_, h⟩
theorem StoR.length : ∀ {S : Sto} {m : List Addr}, StoR Z H M av S m → S.length = m.length
  | _, _, .nil => rfl
  | _, _, .cons _ r => by simp [StoR.length r]
theorem StoR.get : ∀ {S : Sto} {m : List Addr} {i : Nat} {o : O}, StoR Z H M av S m → S[i]? = some o → ∃ a, m[i]? = some a ∧ ObjR Z H M av o a
  | _, _, i, _, .nil, e => by simp at e
  | _, _, 0, _, .cons h _, e => by simp at e; subst e; exact ⟨_, rfl, h⟩
  | _, _, i + 1, _, .cons _ r, e => by
    obtain ⟨v, h1, h2⟩ := StoR.get (i := i) r (by simpa using e)
    exact ⟨v, by simpa using h1, h2⟩
theorem StoR.imp {Z' : Kc} {av' : List Addr} {H' : Hp} (f : ∀ o a, a ∈ m → ObjR Z H M av o a → ObjR Z' H' M' av' o a) : ∀ {S : Sto}, StoR Z H M av S m → StoR Z' H' M' av' S m := by
  intro S r
  induction r with
  | nil => exact .nil
  | cons h r ih => exact .cons (f _ _ List.mem_cons_self h) (ih fun o a z => f o a (List.mem_cons_of_mem _ z))
theorem StoR.impS {Z' : Kc} {av' : List Addr} {H' : Hp} : ∀ {S : Sto} {m : List Addr}, (∀ o a, o ∈ S → a ∈ m → ObjR Z H M av o a → ObjR Z' H' M' av' o a) → StoR Z H M av S m → StoR Z' H' M' av' S m := by
  intro S m f r
  induction r with
  | nil => exact .nil
  | cons h r ih => exact .cons (f _ _ List.mem_cons_self List.mem_cons_self h) (ih fun o a y z => f o a (List.mem_cons_of_mem _ y) (List.mem_cons_of_mem _ z))
theorem StoR.append {S T : Sto} {m ms : List Addr} (r : StoR Z H M av S m) (s : StoR Z H M av T ms) : StoR Z H M av (S ++ T) (m ++ ms) := by
  induction r with
  | nil => exact s
  | cons h r ih => exact .cons h ih
theorem StoR.take {S : Sto} {m : List Addr} (n : Nat) (r : StoR Z H M av S m) : StoR Z H M av (S.take n) (m.take n) := by
  induction r generalizing n with
  | nil => simp; exact .nil
  | cons h r ih =>
    cases n with
    | zero => exact .nil
    | succ n => exact .cons h (ih n)
/-- one object is changed -/
theorem StoR.set {S : Sto} {m : List Addr} {i : Nat} {a : Addr} {o : O} (r : StoR Z H M av S m) (nd : m.Nodup) (hi : m[i]? = some a) (h : ObjR Z H' M' av o a) (k : ∀ b p, b ∈ m → b ≠ a → ObjR Z H M av p b → ObjR Z H' M' av p b) :
    StoR Z H' M' av (S.set i o) m := by
  induction r generalizing i with
  | nil => simp at hi
  | @cons p S b m hp r ih =>
    cases i with
    | zero =>
      have e : b = a := by simpa using hi
      subst e
      exact .cons h (r.imp fun q c hc x => k c q (List.mem_cons_of_mem _ hc) (fun z => (List.nodup_cons.mp nd).1 (z ▸ hc)) x)
    | succ i =>
      have hi' : m[i]? = some a := by simpa using hi
      refine .cons (k b p List.mem_cons_self (fun z => ?_) hp) (ih (List.nodup_cons.mp nd).2 hi' fun c q hc => k c q (List.mem_cons_of_mem _ hc))
      exact (List.nodup_cons.mp nd).1 (z ▸ List.mem_of_getElem? hi')
/-- a table and its code objects stay -/
theorem TabS.stay {P : Addr} {q : Str} (t : LamX.TabS H P q) (e : ∀ b, b = P ∨ (∃ c, H b = some (LamX.CodeO b c)) → ∀ o, H b = some o → H' b = some o) : LamX.TabS H' P q := by
  obtain ⟨ps, h1, h2, h3⟩ := t
  refine ⟨ps, e _ (.inl rfl) _ h1, h2, fun pos cv hc => ?_⟩
  obtain ⟨c, e1, e2⟩ := h3 pos cv hc
  exact ⟨c, e1, e _ (.inr ⟨_, e2⟩) _ e2⟩
/-- an object's relation where its own place is kept, and all that is not of M -/
theorem ObjR.evo (sub : ∀ a ∈ M, a ∈ av) (e : Evo M H ms H') (hM : ∀ b ∈ M, ∀ c, H b ≠ some (LamX.CodeO b c)) {o : O} {a : Addr} (k : ∀ u, H a = some u → H' a = some u) (x : ObjR Z H M av o a) : ObjR Z H' (M ++ ms) (av ++ ms) o a := by
  cases o with
  | lst ds => obtain ⟨vs, h1, h2⟩ := x; exact ⟨vs, k _ h1, RepAll.evo e sub h2⟩
  | lsa as => obtain ⟨vs, h1, h2⟩ := x; exact ⟨vs, k _ h1, RepL.evo0 sub e h2⟩
  | tab j =>
    obtain ⟨q, h1, h2⟩ := x
    refine ⟨q, h1, TabS.stay h2 fun b hb o ho => ?_⟩
    rcases hb with rfl | ⟨c, hc⟩
    · exact k _ ho
    · exact e.keep _ _ ho fun z => hM b z c hc
/-- no code object is of the store -/
theorem StoR.noCode {S : Sto} {m : List Addr} (r : StoR Z H M av S m) : ∀ b ∈ m, ∀ c, H b ≠ some (LamX.CodeO b c) := by
  induction r with
  | nil => intro b hb; cases hb
  | @cons o S a m h r ih =>
    intro b hb c hc
    rcases List.mem_cons.mp hb with rfl | hb
    · cases o with
      | lst ds => obtain ⟨vs, h1, _⟩ := h; rw [h1] at hc; exact absurd (Option.some.inj hc) (by unfold LamX.CodeO; exact fun z => nomatch z)
      | lsa as => obtain ⟨vs, h1, _⟩ := h; rw [h1] at hc; exact absurd (Option.some.inj hc) (by unfold LamX.CodeO; exact fun z => nomatch z)
      | tab j => obtain ⟨_, _, ps, h1, _⟩ := h; rw [h1] at hc; exact absurd (Option.some.inj hc) (by unfold LamX.CodeO; exact fun z => nomatch z)
    · exact ih b hb c hc
theorem Rel.at_ (r : Rel Z ou m av H S) {i : Nat} {ds : List PyData} (e : S[i]? = some (.lst ds)) : ∃ a vs, m[i]? = some a ∧ H a = some (.lst vs) ∧ RepAll Z.K H av ds vs := by
  obtain ⟨a, h1, vs, h2, h3⟩ := r.sto.get e
  exact ⟨a, vs, h1, h2, h3⟩
theorem Rel.atL (r : Rel Z ou m av H S) {i : Nat} {as : List A} (e : S[i]? = some (.lsa as)) : ∃ a vs, m[i]? = some a ∧ H a = some (.lst vs) ∧ RepL Z H m av as vs := by
  obtain ⟨a, h1, vs, h2, h3⟩ := r.sto.get e
  exact ⟨a, vs, h1, h2, h3⟩
theorem Rel.len (r : Rel Z ou m av H S) : S.length = m.length := r.sto.length
theorem RepA.evo {S : Sto} (R : Rel Z ou m av H S) (e : Evo m H ms H') {x : A} {v : V} (r : RepA Z H m av x v) : RepA Z H' (m ++ ms) (av ++ ms) x v := RepA.evo0 R.sub e r
theorem EnR.evo0 (sub : ∀ a ∈ m, a ∈ av) (e : Evo m H ms H') {σd : En} {σ : St} (r : EnR Z H m av σd σ) : EnR Z H' (m ++ ms) (av ++ ms) σd σ := by
  induction r with
  | nil => exact .nil
  | val h r ih => exact .val (RepA.evo0 sub e h) ih
  | emp r ih => exact .emp ih
theorem Evo.trans {S1 : Sto} {H1 H2 : Hp} {ms ns : List Addr} (R1 : Rel Z ou (m ++ ms) (av ++ ms) H1 S1) (e : Evo m H ms H1) (f : Evo (m ++ ms) H1 ns H2) : Evo m H (ms ++ ns) H2 where
  keep := fun a o h n => f.keep a o (e.keep a o h n) fun z => (List.mem_append.mp z).elim n fun z => by rw [e.new a z] at h; cases h
  new := fun p hp => (List.mem_append.mp hp).elim (e.new p) fun z => by
    have h1 := f.new p z
    cases q : H p with
    | none => rfl
    | some o =>
      by_cases hm : p ∈ m
      · obtain ⟨u, hu⟩ := R1.live p (List.mem_append_left _ (by have := R1.sub p (List.mem_append_left _ hm); exact (List.mem_append.mp this).elim id fun z2 => by rw [e.new p z2] at q; cases q))
        rw [hu] at h1; cases h1
      · rw [e.keep p o q hm] at h1; cases h1
theorem Evo.un {H' : Hp} (e : Evo m H [] H') {P : List Addr → List Addr → Prop} (h : P (m ++ []) (av ++ [])) : P m av := by rwa [List.append_nil, List.append_nil] at h
/-- all objects stay, none is new to the store -/
theorem Rel.moved {S : Sto} (R : Rel Z ou m av H S) (e : Evo m H [] H') (k : ∀ a u, H a = some u → H' a = some u) : Rel Z ou m av H' S := by
  refine ⟨R.sub, fun a ha => ?_, fun a ha c => ?_, R.nd, ?_, fun p hp => ?_⟩
  · obtain ⟨u, hu⟩ := R.live a ha
    exact ⟨u, k _ _ hu⟩
  · obtain ⟨u, hu⟩ := R.live a ha
    rw [k _ _ hu, ← hu]; exact R.noc a ha c
  · refine R.sto.imp fun q a ha x => ?_
    have := ObjR.evo (ms := []) R.sub e R.sto.noCode (k a) x
    rwa [List.append_nil, List.append_nil] at this
  · have := EnR.evo0 R.sub e (R.ou p hp)
    rwa [List.append_nil, List.append_nil] at this
/-- a new object that is not of the store -/
theorem Rel.laid {S : Sto} {p : Addr} {o : HO} (R : Rel Z ou m av H S) (hp : H p = none) : Evo m H [] (upd H p o) ∧ Rel Z ou m av (upd H p o) S ∧ p ∉ av := by
  have k : ∀ a u, H a = some u → upd H p o a = some u := fun a u h => by rw [upd_ne (ne_of_none h hp)]; exact h
  have e : Evo m H [] (upd H p o) := ⟨fun a u h _ => k a u h, fun _ h => nomatch h⟩
  refine ⟨e, R.moved e k, fun z => ?_⟩
  obtain ⟨u, hu⟩ := R.live p z
  rw [hu] at hp; cases hp
/-- a new object of the store -/
theorem Rel.growO {S : Sto} {p : Addr} {o : O} {u : HO} (R : Rel Z ou m av H S) (hp : H p = none) (hu : ∀ c, u ≠ LamX.CodeO p c) (r : ObjR Z (upd H p u) (m ++ [p]) (av ++ [p]) o p) :
    Evo m H [p] (upd H p u) ∧ Rel Z ou (m ++ [p]) (av ++ [p]) (upd H p u) (S ++ [o]) := by
  have k : ∀ a v, H a = some v → upd H p u a = some v := fun a v h => by rw [upd_ne (ne_of_none h hp)]; exact h
  have e : Evo m H [p] (upd H p u) := ⟨fun a v h _ => k a v h, fun q h => by rw [List.mem_singleton.mp h]; exact hp⟩
  have np : p ∉ av := fun z => by
    obtain ⟨u, hu⟩ := R.live p z
    rw [hu] at hp; cases hp
  have npm : p ∉ m := fun z => np (R.sub p z)
  refine ⟨e, ⟨fun a ha => ?_, fun a ha => ?_, fun a ha c => ?_, ?_, ?_, fun q hq => EnR.evo0 R.sub e (R.ou q hq)⟩⟩
  · rcases List.mem_append.mp ha with z | z
    · exact List.mem_append_left _ (R.sub a z)
    · exact List.mem_append_right _ z
  · rcases List.mem_append.mp ha with z | z
    · obtain ⟨v, hv⟩ := R.live a z
      exact ⟨v, k _ _ hv⟩
    · rw [List.mem_singleton.mp z]
      exact ⟨_, upd_same⟩
  · rcases List.mem_append.mp ha with z | z
    · obtain ⟨v, hv⟩ := R.live a z
      rw [k _ _ hv, ← hv]; exact R.noc a z c
    · rw [List.mem_singleton.mp z, upd_same]
      exact fun w => hu c (Option.some.inj w)
  · exact List.nodup_append.mpr ⟨R.nd, by simp, fun a ha b hb z => npm (by rw [List.mem_singleton.mp hb] at z; exact z ▸ ha)⟩
  · exact StoR.append (R.sto.imp fun q a ha x => ObjR.evo R.sub e R.sto.noCode (k a) x) (.cons r .nil)
/-- a new list of the store -/
theorem Rel.grow {S : Sto} {p : Addr} {ds : List PyData} {vs : List V} (R : Rel Z ou m av H S) (hp : H p = none) (r : RepAll Z.K H av ds vs) :
    Evo m H [p] (upd H p (.lst vs)) ∧ Rel Z ou (m ++ [p]) (av ++ [p]) (upd H p (.lst vs)) (S ++ [.lst ds]) := by
  refine R.growO hp (fun c => by unfold LamX.CodeO; exact fun z => nomatch z) ⟨vs, upd_same, ?_⟩
  refine RepAll.evo (m := m) (ms := [p]) ⟨fun a v h _ => ?_, fun q h => ?_⟩ R.sub r
  · rw [upd_ne (ne_of_none h hp)]; exact h
  · rw [List.mem_singleton.mp h]; exact hp
theorem Rel.growL {S : Sto} {p : Addr} {as : List A} {vs : List V} (R : Rel Z ou m av H S) (hp : H p = none) (r : RepL Z H m av as vs) :
    Evo m H [p] (upd H p (.lst vs)) ∧ Rel Z ou (m ++ [p]) (av ++ [p]) (upd H p (.lst vs)) (S ++ [.lsa as]) := by
  refine R.growO hp (fun c => by unfold LamX.CodeO; exact fun z => nomatch z) ⟨vs, upd_same, ?_⟩
  refine RepL.evo0 (m := m) (ms := [p]) R.sub ⟨fun a v h _ => ?_, fun q h => ?_⟩ r
  · rw [upd_ne (ne_of_none h hp)]; exact h
  · rw [List.mem_singleton.mp h]; exact hp
/-- an object of the store is written -/
theorem Rel.writeO {S : Sto} {i : Nat} {a : Addr} {o : O} {u w : HO} (R : Rel Z ou m av H S) (hi : m[i]? = some a) (hw : H a = some w) (nt : ∀ ps, w ≠ .tbl ps) (hu : ∀ c, u ≠ LamX.CodeO a c) (r : ObjR Z (upd H a u) m av o a) :
    Evo m H [] (upd H a u) ∧ Rel Z ou m av (upd H a u) (S.set i o) := by
  have ha : a ∈ m := List.mem_of_getElem? hi
  have e : Evo m H [] (upd H a u) := ⟨fun b v h n => by rw [upd_ne (fun z => n (by rw [z]; exact ha))]; exact h, fun _ h => nomatch h⟩
  refine ⟨e, ⟨R.sub, fun b hb => ?_, fun b hb c => ?_, R.nd, ?_, fun p hp => ?_⟩⟩
  · by_cases z : b = a
    · rw [z]; exact ⟨_, upd_same⟩
    · obtain ⟨v, hv⟩ := R.live b hb
      exact ⟨v, by rw [upd_ne z]; exact hv⟩
  · by_cases z : b = a
    · rw [z, upd_same]; exact fun w => hu c (Option.some.inj w)
    · rw [upd_ne z]; exact R.noc b hb c
  · refine R.sto.set R.nd hi r fun b p hb hne x => ?_
    have := ObjR.evo (ms := []) R.sub e R.sto.noCode (fun v hv => by rw [upd_ne hne]; exact hv) x
    rwa [List.append_nil, List.append_nil] at this
  · have := EnR.evo0 R.sub e (R.ou p hp)
    rwa [List.append_nil, List.append_nil] at this
theorem Rel.write {S : Sto} {i : Nat} {a : Addr} {ds : List PyData} {vs ws : List V} (R : Rel Z ou m av H S) (hi : m[i]? = some a) (hw : H a = some (.lst ws)) (r : RepAll Z.K H av ds vs) :
    Evo m H [] (upd H a (.lst vs)) ∧ Rel Z ou m av (upd H a (.lst vs)) (S.set i (.lst ds)) := by
  have ha : a ∈ m := List.mem_of_getElem? hi
  refine R.writeO hi hw (fun _ z => nomatch z) (fun c => by unfold LamX.CodeO; exact fun z => nomatch z) ⟨vs, upd_same, ?_⟩
  have := RepAll.evo (m := m) (ms := []) (H' := upd H a (.lst vs)) ⟨fun b v h n => by rw [upd_ne (fun z => n (by rw [z]; exact ha))]; exact h, fun _ h => nomatch h⟩ R.sub r
  rwa [List.append_nil] at this
theorem Rel.writeL {S : Sto} {i : Nat} {a : Addr} {as : List A} {vs ws : List V} (R : Rel Z ou m av H S) (hi : m[i]? = some a) (hw : H a = some (.lst ws)) (r : RepL Z H m av as vs) :
    Evo m H [] (upd H a (.lst vs)) ∧ Rel Z ou m av (upd H a (.lst vs)) (S.set i (.lsa as)) := by
  have ha : a ∈ m := List.mem_of_getElem? hi
  refine R.writeO hi hw (fun _ z => nomatch z) (fun c => by unfold LamX.CodeO; exact fun z => nomatch z) ⟨vs, upd_same, ?_⟩
  have := RepL.evo0 (m := m) (ms := []) (H' := upd H a (.lst vs)) R.sub ⟨fun b v h n => by rw [upd_ne (fun z => n (by rw [z]; exact ha))]; exact h, fun _ h => nomatch h⟩ r
  rwa [List.append_nil, List.append_nil] at this
/-- an object that leans on none from the end of m on -/
theorem ObjR.short {o : O} {a : Addr} (x : ObjR Z H (m ++ ms) (av ++ ms) o a) (c : closedO m.length o = true) : ObjR Z H m av o a := by
  cases o with
  | lst ds => obtain ⟨vs, h1, h2⟩ := x; exact ⟨vs, h1, RepAll.less (fun b hb => List.mem_append_left _ hb) h2⟩
  | lsa as => obtain ⟨vs, h1, h2⟩ := x; exact ⟨vs, h1, RepL.less (fun b hb => List.mem_append_left _ hb) (RepL.short h2 c)⟩
  | tab j => exact x
/-- a def's own lists are left behind -/
theorem Rel.drop {S S0 : Sto} {n : Nat} {H1 : Hp} (R : Rel Z ou m av H S0) (R1 : Rel Z ou (m ++ ms) (av ++ ms) H1 S) (hn : n = m.length) (hc : (S.take n).all (closedO n) = true) (hou : ∀ p, ou = some p → EnR Z H1 m av p.1 p.2) : Rel Z ou m av H1 (S.take n) where
  sub := R.sub
  live := fun a ha => R1.live a (List.mem_append_left _ ha)
  noc := fun a ha => R1.noc a (List.mem_append_left _ ha)
  nd := R.nd
  sto := by
    have h := R1.sto.take n
    rw [hn, List.take_left'] at h
    · rw [hn] at hc ⊢
      exact StoR.impS (fun o a ho ha x => ObjR.short x (List.all_eq_true.mp hc o ho)) h
    · rfl
  ou := hou
theorem EnR.length {σd : En} {σ : St} (r : EnR Z H m av σd σ) : σd.length = σ.length := by
  induction r with
  | nil => rfl
  | val _ _ ih => simp [ih]
  | emp _ ih => simp [ih]
theorem EnR.get {σd : En} {σ : St} (r : EnR Z H m av σd σ) {i : Nat} {x : A} (e : σd[i]? = some (some x)) : ∃ v, σ[i]? = some (some v) ∧ RepA Z H m av x v := by
  induction r generalizing i with
  | nil => simp at e
  | val h r ih =>
    cases i with
    | zero => simp at e; subst e; exact ⟨_, rfl, h⟩
    | succ i => simpa using ih (by simpa using e)
  | emp r ih =>
    cases i with
    | zero => simp at e
    | succ i => simpa using ih (by simpa using e)
theorem EnR.evo {S : Sto} (R : Rel Z ou m av H S) (e : Evo m H ms H') {σd : En} {σ : St} (r : EnR Z H m av σd σ) : EnR Z H' (m ++ ms) (av ++ ms) σd σ := EnR.evo0 R.sub e r
theorem EnR.set {σd : En} {σ : St} (r : EnR Z H m av σd σ) (i : Nat) {x : A} {v : V} (h : RepA Z H m av x v) : EnR Z H m av (σd.set i (Option.some x)) (σ.set i (Option.some v)) := by
  induction r generalizing i with
  | nil => exact .nil
  | val h' r ih =>
    cases i with
    | zero => exact .val h r
    | succ i => exact .val h' (ih i)
  | emp r ih =>
    cases i with
    | zero => exact .val h r
    | succ i => exact .emp (ih i)
theorem EnR.forget {σd : En} {σ : St} (r : EnR Z H m av σd σ) (i : Nat) : EnR Z H m av (σd.set i Option.none) (σ.set i Option.none) := by
  induction r generalizing i with
  | nil => exact .nil
  | val h' r ih =>
    cases i with
    | zero => exact .emp r
    | succ i => exact .val h' (ih i)
  | emp r ih =>
    cases i with
    | zero => exact .emp r
    | succ i => exact .emp (ih i)
theorem EnR.wipe {σd : En} {σ : St} (r : EnR Z H m av σd σ) : ∀ own : List Nat, EnR Z H m av (wipeD σd own) (L2.wipe σ own)
  | [] => r
  | v :: vs => (EnR.wipe r vs).forget v
theorem enr_setAll : ∀ {is : List Nat} {xs : List PyData} {vs : List V} {σd σd' : En} {σ : St}, EnR Z H m av σd σ → RepAll Z.K H av xs vs → setAll is xs σd = Option.some σd' →
    ∃ σ', EnR Z H m av σd' σ' ∧ σ' = (is.zip vs).foldl (fun σ p => σ.set p.1 (Option.some p.2)) σ
  | [], [], _, _, _, _, r, h, e => by
    cases h
    simp only [setAll, Option.some.injEq] at e; subst e
    exact ⟨_, r, rfl⟩
  | i :: is, x :: xs, _, _, _, _, r, h, e => by
    cases h with
    | cons h t =>
      have q := enr_setAll (is := is) (EnR.set (x := .d x) r i h) t e
      exact q
  | [], _ :: _, _, _, _, _, _, _, e => by simp [setAll] at e
  | _ :: _, [], _, _, _, _, _, _, e => by simp [setAll] at e
end
end Pv
set_option Elab.async false
set_option maxRecDepth 100000
set_option linter.unusedVariables false
/-! Pv3: the rules of the machine by values, for data. -/
namespace Pv
open PySem PySem.Spec PyProof.Rows L2
abbrev SL := L2.St

/-! ### weakest readings -/
def we (X : Cx) (e : Expr) : TE := fun σ H Q => ∀ pins s, Inv X pins σ H s → wpAny (model X.prog X.w) X.A (eval e X.env) (EP X pins σ Q) X.xe s
theorem pe_we {X : Cx} {e : Expr} : PE X e (we X e) := ⟨fun pins s σ H Q I h => h pins s I⟩
theorem we_of {X : Cx} {e : Expr} {t : TE} (h : PE X e t) {σ : SL} {H : Hp} {Q : VK} (q : t σ H Q) : we X e σ H Q := fun pins s I => h.run pins s σ H Q I q
def wt (X : Cx) (e : Expr) : TT := fun σ H Q => ∀ pins s, Inv X pins σ H s → wpAny (model X.prog X.w) X.A (isTrue e X.env (eval e X.env)) (TP X pins σ Q) X.xe s
theorem pt_wt {X : Cx} {e : Expr} : PT X e (wt X e) := ⟨fun pins s σ H Q I h => h pins s I⟩
theorem wt_of {X : Cx} {e : Expr} {t : TT} (h : PT X e t) {σ : SL} {H : Hp} {Q : Bool → Hp → Prop} (q : t σ H Q) : wt X e σ H Q := fun pins s I => h.run pins s σ H Q I q
/-- a test whatever its whole is -/
def ww (X : Cx) (e : Expr) : TT := fun σ H Q => ∀ whole pins s, Inv X pins σ H s → wpAny (model X.prog X.w) X.A (isTrue e X.env whole) (TP X pins σ Q) X.xe s
theorem pw_ww {X : Cx} {e : Expr} : PW X e (ww X e) := ⟨fun wh pins s σ H Q I h => h wh pins s I⟩
theorem ww_of {X : Cx} {e : Expr} {t : TT} (h : PW X e t) {σ : SL} {H : Hp} {Q : Bool → Hp → Prop} (q : t σ H Q) : ww X e σ H Q := fun wh pins s I => h.run wh pins s σ H Q I q
def wa (X : Cx) (es : List Expr) : TA := fun σ H Q => ∀ pos pins s, Inv X pins σ H s → wpAny (model X.prog X.w) X.A (spliced (backTo pos (starEach es X.env))) (AP X pins σ Q) X.xe s
theorem pa_wa {X : Cx} {es : List Expr} : PA X es (wa X es) := ⟨fun pos pins s σ H Q I h => h pos pins s I⟩
theorem wa_of {X : Cx} {es : List Expr} {t : TA} (h : PA X es t) {σ : SL} {H : Hp} {Q : List V → Hp → Prop} (q : t σ H Q) : wa X es σ H Q := fun pos pins s I => h.run pos pins s σ H Q I q
/-- an operator's weakest reading -/
def wop (X : Cx) (f : Value → Value → Sem Value) : R2 := fun x y H Q => ∀ pins s σ v u, Inv X pins σ H s → RelV x v → RelV y u → wpAny (model X.prog X.w) X.A (f v u) (EP X pins σ Q) X.xe s
theorem op_wop {X : Cx} {f : Value → Value → Sem Value} : OpR X f (wop X f) := fun pins s σ H x y v u Q I r1 r2 h => h pins s σ v u I r1 r2
theorem wop_of {X : Cx} {f : Value → Value → Sem Value} {r : R2} (h : OpR X f r) {x y : V} {H : Hp} {Q : VK} (q : r x y H Q) : wop X f x y H Q := fun pins s σ v u I r1 r2 => h pins s σ H x y v u Q I r1 r2 q
def wun (X : Cx) (f : Value → Sem Value) : V → Hp → VK → Prop := fun x H Q => ∀ pins s σ v, Inv X pins σ H s → RelV x v → wpAny (model X.prog X.w) X.A (f v) (EP X pins σ Q) X.xe s
theorem un_wun {X : Cx} {f : Value → Sem Value} : UnR X f (wun X f) := fun pins s σ H x v Q I r1 h => h pins s σ v I r1
theorem wun_of {X : Cx} {f : Value → Sem Value} {r : V → Hp → VK → Prop} (h : UnR X f r) {x : V} {H : Hp} {Q : VK} (q : r x H Q) : wun X f x H Q := fun pins s σ v I r1 => h pins s σ H x v Q I r1 q
def wcl (X : Cx) (f : Value) : List V → Hp → VK → Prop := fun xs H Q => ∀ pins s σ us, Inv X pins σ H s → Vals xs us → wpAny (model X.prog X.w) X.A (call f us) (EP X pins σ Q) X.xe s
theorem cl_wcl {X : Cx} {f : Value} : CallR X f (wcl X f) := fun pins s σ H xs us Q I r h => h pins s σ us I r
theorem wcl_of {X : Cx} {f : Value} {r : List V → Hp → VK → Prop} (h : CallR X f r) {xs : List V} {H : Hp} {Q : VK} (q : r xs H Q) : wcl X f xs H Q := fun pins s σ us I r1 => h pins s σ H xs us Q I r1 q

/-! ### data that is read -/
section
variable {K : PySem.W.Frag} {H : Hp} {m av : List Addr}
def RdR (K : PySem.W.Frag) (H : Hp) (av : List Addr) (d : PyData) (v : V) : Prop :=
  Rep K H av d v ∨ ∃ ds a vs, d = .list ds ∧ v = .ref a ∧ H a = some (.lst vs) ∧ RepAll K H av ds vs
theorem rd_rep {Z : Kc} {ou : Option (En × L2.St)} {S : Sto} (R : Rel Z ou m av H S) {x : A} {v : V} {d : PyData} (r : RepA Z H m av x v) (e : rd S x = some d) : RdR Z.K H av d v := by
  cases x with
  | d x => simp only [rd, Option.some.injEq] at e; subst e; exact .inl r
  | ref i =>
    obtain ⟨a, h1, h2⟩ := r
    simp only [rd] at e
    split at e
    · rename_i ds q
      simp only [Option.some.injEq] at e
      obtain ⟨b, vs, h3, h4, h5⟩ := R.at_ q
      rw [h1] at h3; cases h3
      exact .inr ⟨ds, a, vs, e.symm, h2, h4, h5⟩
    · cases e
  | _ => simp [rd] at e
theorem RdR.dp {d : PyData} {v : V} (r : RdR K H av d v) : Dp K H v d := by
  rcases r with r | ⟨ds, a, vs, rfl, rfl, h, t⟩
  · exact r.dp
  · exact .lst (.inl (.inl h)) t.dp
theorem RdR.int {i : Int} {v : V} (r : RdR K H av (.int i) v) : v = .int i := by
  rcases r with r | ⟨ds, a, vs, e, _⟩
  · cases r; rfl
  · cases e
theorem RdR.bool {b : Bool} {v : V} (r : RdR K H av (.bool b) v) : v = .bl b := by
  rcases r with r | ⟨ds, a, vs, e, _⟩
  · cases r; rfl
  · cases e
theorem RdR.non {v : V} (r : RdR K H av .none v) : v = .non := by
  rcases r with r | ⟨ds, a, vs, e, _⟩
  · cases r; rfl
  · cases e
theorem RdR.str {s : Str} {v : V} (r : RdR K H av (.str s) v) : v = .str s := by
  rcases r with r | ⟨ds, a, vs, e, _⟩
  · cases r; rfl
  · cases e
theorem RdR.lst {ds : List PyData} {v : V} (r : RdR K H av (.list ds) v) : ∃ a vs, v = .ref a ∧ SqL K H a vs ∧ RepAll K H av ds vs := by
  rcases r with r | ⟨es, a, vs, e, rfl, h, t⟩
  · cases r with
    | lstH h _ t => exact ⟨_, _, rfl, .inl h, t⟩
    | lstK h t => exact ⟨_, _, rfl, .inr h, t⟩
  · cases e; exact ⟨a, vs, rfl, .inl (.inl h), t⟩
theorem RdR.tup {ds : List PyData} {v : V} (r : RdR K H av (.tuple ds) v) : ∃ a vs, v = .ref a ∧ SqT K H a vs ∧ RepAll K H av ds vs := by
  rcases r with r | ⟨es, a, vs, e, rfl, h, t⟩
  · cases r with
    | tupH h _ t => exact ⟨_, _, rfl, .inl h, t⟩
    | tupK h t => exact ⟨_, _, rfl, .inr h, t⟩
  · cases e
theorem RdR.tru {d : PyData} {v : V} {b : Bool} (r : RdR K H av d v) (e : truthD d = some b) : TruV K v H b := by
  cases d with
  | none => rw [r.non]; simp only [truthD, Option.some.injEq] at e; exact e.symm
  | bool c => rw [r.bool]; simp only [truthD, Option.some.injEq] at e; exact e.symm
  | int i => rw [r.int]; simp only [truthD, Option.some.injEq] at e; exact e.symm
  | str s =>
    rw [r.str]
    simp only [truthD] at e
    split at e
    · rename_i h
      simp only [Option.some.injEq] at e
      exact ⟨h, e.symm⟩
    · cases e
  | list ds =>
    obtain ⟨a, vs, rfl, h, t⟩ := r.lst
    simp only [truthD, Option.some.injEq] at e
    exact .inl ⟨vs, h, by rw [← e]; cases t <;> rfl⟩
  | tuple ds =>
    obtain ⟨a, vs, rfl, h, t⟩ := r.tup
    simp only [truthD, Option.some.injEq] at e
    exact .inr (.inl ⟨vs, h, by rw [← e]; cases t <;> rfl⟩)
  | dict _ => simp [truthD] at e
theorem asInts_rep : ∀ {ds : List PyData} {vs : List V} {ns : List Int}, RepAll K H av ds vs → asInts ds = some ns → vs = ns.map V.int
  | [], _, _, h, e => by cases h; simp [asInts] at e; subst e; rfl
  | d :: ds, _, _, h, e => by
    cases h with
    | cons h t =>
      cases d <;> simp only [asInts] at e <;> try cases e
      cases q : asInts ds with
      | none => rw [q] at e; cases e
      | some ns =>
        rw [q] at e
        simp only [Option.map_some, Option.some.injEq] at e
        subst e
        cases h
        rw [asInts_rep t q]; rfl
theorem asBools_rep : ∀ {ds : List PyData} {vs : List V} {ns : List Bool}, RepAll K H av ds vs → asBools ds = some ns → vs = ns.map V.bl
  | [], _, _, h, e => by cases h; simp [asBools] at e; subst e; rfl
  | d :: ds, _, _, h, e => by
    cases h with
    | cons h t =>
      cases d <;> simp only [asBools] at e <;> try cases e
      cases q : asBools ds with
      | none => rw [q] at e; cases e
      | some ns =>
        rw [q] at e
        simp only [Option.map_some, Option.some.injEq] at e
        subst e
        cases h
        rw [asBools_rep t q]; rfl
theorem RepAll.atI {ds : List PyData} {vs : List V} (r : RepAll K H av ds vs) {i : Int} {d : PyData} (e : L2.atI ds i = some d) : ∃ v, L2.atI vs i = some v ∧ Rep K H av d v := by
  unfold L2.atI at e ⊢
  rw [← r.length]
  cases q : ixN ds.length i with
  | none => rw [q] at e; cases e
  | some j =>
    rw [q] at e
    exact r.get e
theorem cut_rep {ds : List PyData} {vs : List V} (r : RepAll K H av ds vs) (lo hi : Option Int) : RepAll K H av (cutD ds lo hi) (cutV vs lo hi) := by
  unfold cutD cutV
  rw [r.length]
  exact (r.drop _).take _
end

/-! ### operators -/
theorem dec_str (a b : Str) : decide (V.str a = V.str b) = decide (a = b) := by
  by_cases h : a = b
  · rw [decide_eq_true h, h]; exact decide_eq_true rfl
  · rw [decide_eq_false h]; exact decide_eq_false fun z => h (V.str.inj z)
def opOf : BOp → Operator
  | .add => .Add | .sub => .Sub | .mul => .Mult | .fdiv => .FloorDiv | .mod => .Mod | .pow => .Pow
def copOf : COp → CmpOp
  | .eq => .Eq | .ne => .NotEq | .lt => .Lt | .le => .LtE | .gt => .Gt | .ge => .GtE | .isN => .Is | .notN => .IsNot
section
variable {X : Cx} {H : Hp} {av : List Addr} {Q : VK}
theorem op_ii {f : Value → Value → Sem Value} {i j k : Int}
    (rule : ∀ (t u : Tok) (s : Shared) (Q : Value → Shared → Prop) (E : Value → Shared → Prop), Q (.int k s.toks) { s with toks := s.toks + 1 } → wpAny (model X.prog X.w) X.A (f (.int i t) (.int j u)) Q E s)
    (q : Q (.int k) H) : wop X f (.int i) (.int j) H Q := fun pins s σ v u I r1 r2 => by
  obtain ⟨t, rfl⟩ := r1
  obtain ⟨t', rfl⟩ := r2
  exact rule t t' s _ _ ⟨.int k, H, I.tok _, ⟨_, rfl⟩, q⟩
theorem mulOk_of {a b : Int} (h : mulOk a b = true) : CMulW a b := by
  unfold mulOk at h
  have h' := of_decide_eq_true h
  exact h'
theorem RepAll.flat {n : Nat} {ds : List PyData} {vs : List V} {K : PySem.W.Frag} (r : RepAll K H av ds vs) : RepAll K H av (repD ds n) (List.replicate n vs).flatten := by
  unfold repD
  induction n with
  | zero => exact .nil
  | succ n ih =>
    rw [List.replicate_succ, List.replicate_succ, List.flatten_cons, List.flatten_cons]
    exact r.append ih
/-- an answer: data as they are, or a new tuple -/
def Made (K : PySem.W.Frag) (H : Hp) (av : List Addr) (z : PyData) (Q : VK) : Prop := (∀ w, Rep K H av z w → Q w H) ∧ ∀ ds vs p, z = .tuple ds → H p = none → RepAll K H av ds vs → Q (.ref p) (upd H p (.tup vs))
theorem bin_ok {o : BOp} {x y z : PyData} {v u : V} (e : binD o x y = some z) (rv : RdR X.K H av x v) (ru : RdR X.K H av y u) (q : Made X.K H av z Q) : wop X (binaryOp (opOf o)) v u H Q := by
  unfold binD at e
  split at e <;> (try cases e) <;> (try (have e1 := rv.int; subst e1)) <;> (try (have e1 := rv.bool; subst e1)) <;> (try (have e2 := ru.int; subst e2)) <;> (try (have e2 := ru.bool; subst e2))
  · exact op_ii (fun _ _ _ _ _ h => add_int h) (q.1 _ (.int _))
  · refine fun pins s σ v u I r1 r2 => ?_
    obtain ⟨t, rfl⟩ := r1
    cases r2
    exact add_int_bool ⟨.int _, H, I.tok _, ⟨_, rfl⟩, q.1 _ (.int _)⟩
  · exact op_ii (fun _ _ _ _ _ h => sub_int h) (q.1 _ (.int _))
  · refine fun pins s σ v u I r1 r2 => ?_
    obtain ⟨t, rfl⟩ := r1
    cases r2
    exact PySem.IntBool.sub_int_bool ⟨.int _, H, I.tok _, ⟨_, rfl⟩, q.1 _ (.int _)⟩
  · refine fun pins s σ v u I r1 r2 => ?_
    cases r1
    cases r2
    exact sub_bool ⟨.int _, H, I.tok _, ⟨s.toks, rfl⟩, q.1 _ (.int _)⟩
  · split at e <;> cases e
    rename_i hm
    exact op_ii (fun _ _ _ _ _ h => mul_int h (CMulW.ok (mulOk_of hm))) (q.1 _ (.int _))
  · split at e <;> cases e
    rename_i hm
    unfold divOk at hm
    rw [Bool.and_eq_true, decide_eq_true_eq, decide_eq_true_eq] at hm
    exact op_ii (fun _ _ _ _ _ h => floordiv_int hm.1 h (.inl (PyProof.noPylong_of_log2 hm.2))) (q.1 _ (.int _))
  · split at e <;> cases e
    rename_i hm
    exact op_ii (fun _ _ _ _ _ h => mod_int' hm h) (q.1 _ (.int _))
  · split at e <;> cases e
    rename_i hm
    unfold powOk at hm
    rw [Bool.and_eq_true, decide_eq_true_eq, decide_eq_true_eq] at hm
    exact op_ii (fun _ _ _ _ _ h => pow_int hm.1 hm.2 h) (q.1 _ (.int _))
  · split at e <;> cases e
    rename_i hm
    obtain ⟨a, vs, rfl, ha, ta⟩ := rv.tup
    obtain ⟨b, ws, rfl, hb, tb⟩ := ru.tup
    have ne : ∀ {ds : List PyData} {vs : List V}, RepAll X.K H av ds vs → ds ≠ [] → vs ≠ [] := fun t h z => by subst z; cases t; exact h rfl
    exact wop_of op_catT ⟨a, b, vs, ws, rfl, rfl, ha, hb, ne ta hm.1, by rw [← ta.length, ← tb.length]; exact hm.2.2, fun z => absurd z (ne tb hm.2.1), fun _ p hp => q.2 _ _ p rfl hp (ta.append tb)⟩
  · split at e <;> cases e
    rename_i hm
    obtain ⟨a, vs, rfl, ha, ta⟩ := rv.tup
    have ne : vs ≠ [] := fun z => by subst z; cases ta; exact hm.1 rfl
    exact wop_of op_repT ⟨a, _, vs, rfl, rfl, ha, ne, hm.2.1, hm.2.2.1, by rw [← ta.length]; exact hm.2.2.2, fun p hp => q.2 _ _ p rfl hp ta.flat⟩
theorem cmp_ok (hu : X.A.units + 64 < cLine) {o : COp} {x y : PyData} {v u : V} {b : Bool} (e : cmpD o x y = some b) (rv : RdR X.K H av x v) (ru : RdR X.K H av y u) (q : Q (.bl b) H) : wop X (compareOp (copOf o)) v u H Q := by
  unfold cmpD at e
  split at e
  · cases e
    rw [rv.str, ru.str]
    exact wop_of op_eq ⟨rfl, by rw [dec_str]; exact q⟩
  · cases e
    rw [rv.str, ru.str]
    exact wop_of op_ne ⟨rfl, by rw [dec_str]; exact q⟩
  · split at e <;> cases e
    rename_i hf
    rw [Bool.and_eq_true] at hf
    exact wop_of (op_eqD hu) ⟨_, _, rv.dp, ru.dp, hf.1, hf.2, q⟩
  · split at e <;> cases e
    rename_i hf
    rw [Bool.and_eq_true] at hf
    exact wop_of (op_neD hu) ⟨_, _, rv.dp, ru.dp, hf.1, hf.2, q⟩
  · cases e
    rw [rv.int, ru.int]
    exact wop_of op_lt ⟨_, _, rfl, rfl, q⟩
  · cases e
    rw [rv.int, ru.int]
    exact wop_of op_le ⟨_, _, rfl, rfl, q⟩
  · cases e
    rw [rv.int, ru.int]
    exact wop_of op_gt ⟨_, _, rfl, rfl, q⟩
  · cases e
    rw [rv.int, ru.int]
    exact wop_of op_ge ⟨_, _, rfl, rfl, q⟩
  · cases e
    rw [ru.non]
    refine wop_of op_isN ⟨rfl, ?_⟩
    have : decide (v = V.non) = isNone x := by
      cases rv.dp <;> simp [isNone]
    rw [this]; exact q
  · cases e
    rw [ru.non]
    refine wop_of op_notN ⟨rfl, ?_⟩
    have : decide (v = V.non) = isNone x := by
      cases rv.dp <;> simp [isNone]
    rw [this]; exact q
  · cases e
end
end Pv
set_option Elab.async false
set_option maxRecDepth 100000
set_option linter.unusedVariables false
/-! Pv8e: enumerate of a tuple. -/
namespace Pv
open PySem PySem.Spec PyProof.Rows L2
set_option maxHeartbeats 1000000 in
theorem meets_enumT {v : Value} {o : Obj} {H : Heap → Prop} (B : Begins v o H) :
    Meets (Builtin.«enumerate.__new__» ⟨[.type "enumerate", v], []⟩) (fun _ R s => H s.heap ∧
      R (.ok (.ret (.ref (s.heap.push o).objs.size))) { s with heap := (s.heap.push o).push { cls := .type "enumerate", data := .fields #[.none, .bool false, .ref s.heap.objs.size, rawInt 0, .none, .none] } }) :=
  .of_wp fun prog w A R s h => by
    obtain ⟨hp, g, d, tk, os⟩ := s
    obtain ⟨h1, h⟩ := h
    have hsub := sub_enumerate
    have go : ∀ {A' : Around} {E : Value → Shared → Prop} {Q : Value → Shared → Prop}, Q (.ref hp.objs.size) ⟨hp.push o, g, d, tk, os⟩ → wpAny (model prog w) A' (pyIter v) Q E ⟨hp, g, d, tk, os⟩ := fun q => B.iter prog w _ _ ⟨hp, g, d, tk, os⟩ _ h1 q
    wp_walk using go
    refine wpAny_stack_any fun st => wpAny_pure ?_
    split
    · rename_i c _ _ _ _ _
      cases (c == Value.type "enumerate")
      all_goals
        wp_walk using go
        exact ⟨_, rfl, h⟩
    · wp_walk using go
      exact ⟨_, rfl, h⟩
section
variable {prog : Program} {w : World} {A : Around} {E : Value → Shared → Prop} {s : Shared}
theorem call_enumT {v : Value} {o : Obj} {H : Heap → Prop} {Q : Value → Shared → Prop} (B : Begins v o H) (h1 : H s.heap)
    (h : ∀ h', IsEnum h' (s.heap.objs.size + 1) s.heap.objs.size 0 .none → h'.get? s.heap.objs.size = some o → (∀ b o, s.heap.get? b = some o → h'.get? b = some o) → Q (.ref (s.heap.objs.size + 1)) { s with heap := h' }) :
    wpAny (model prog w) A (call (.type "enumerate") [v]) Q E s := by
  refine callType_new F.called_enumerate (by decide) (F.typeCall_enumerate_1 _) (F.newCall_enumerate_1 _) (fun obj => F.args_object_init_2 obj _) F.entry_enumerate_new (meets_enumT B) ⟨h1, ?_⟩
  have hz : (s.heap.push o).objs.size = s.heap.objs.size + 1 := Heap.size_push ..
  show _ ∧ _
  rw [hz]
  have he : IsEnum ((s.heap.push o).push { cls := .type "enumerate", data := .fields #[.none, .bool false, .ref s.heap.objs.size, rawInt 0, .none, .none] }) (s.heap.objs.size + 1) s.heap.objs.size 0 .none := by
    have := Heap.get?_push_size (s.heap.push o) (o := { cls := .type "enumerate", data := .fields #[.none, .bool false, .ref s.heap.objs.size, rawInt 0, .none, .none] }) rfl
    rw [hz] at this
    exact this
  exact ⟨⟨_, he, rfl⟩, h _ he (Heap.get?_push_of_some _ (Heap.get?_push_size _ B.free)) fun b o x => Heap.get?_push_of_some _ (Heap.get?_push_of_some _ x)⟩
end
/-- the tuple at a, its items in new pairs with their places -/
def IteT (K : PySem.W.Frag) (a : Addr) : It :=
  ⟨fun i H => ∃ (xs : List V) (x : V), SqT K H a xs ∧ xs[i]? = some x, fun i H v H' => ∃ T x, v = .ref T ∧ H T = none ∧ H' = upd H T (.tup [.int (i : Nat), x]) ∧ ∀ xs, SqT K H a xs → xs[i]? = some x, fun i H => ∃ xs : List V, SqT K H a xs ∧ xs.length = i⟩
theorem walk_enumT {K : PySem.W.Frag} {a : Addr} {xs : List V} : Walk (IteT K a) xs.length (fun H => SqT K H a xs) (YPair (fun i => some (.int (i : Nat))) (fun i => xs[i]?)) := by
  refine ⟨fun i _ hi q => ⟨xs, xs[i], q, by simp [hi]⟩, fun _ q => ⟨xs, q, rfl⟩, fun i H v H' _ q y => ?_⟩
  obtain ⟨T, x, h1, h2, h3, h4⟩ := y
  exact ⟨T, .int (i : Nat), x, h1, h2, h3, rfl, h4 xs q⟩
theorem turn_enumT {P : Program} {w : World} {K : PySem.W.Frag} {elts : List Expr} {kk : Nat} {tpos : Pos} (a e it : Addr) (hae : a ≠ e) (hai : a ≠ it) :
    Turn P w K (.Tuple elts kk tpos) (IteT K a) [e, it] e (fun i h => (∃ old, IsEnum h e it ((i : Nat) : Int) old) ∧ h.IsTupleIter it a i ∧ e ≠ it) where
  mem := by simp
  obj := fun i h st b hb => by
    obtain ⟨⟨old, he⟩, ⟨o, ho, _, hd⟩, _⟩ := st
    have e' : b = e ∨ b = it := by simpa using hb
    rcases e' with z | z
    · rw [z]; exact ⟨_, he, fun v q => nomatch q⟩
    · rw [z]; exact ⟨o, ho, fun v q => by rw [hd] at q; cases q⟩
  keep := fun i h h' st k => by
    obtain ⟨⟨old, he⟩, hi, hne⟩ := st
    exact ⟨⟨old, k e (by simp) _ he⟩, hi.at fun o q => k it (by simp) o q, hne⟩
  item := by
    intro X hP hw hK hc i pins s σ H E I hf st hg
    subst hP hw hK
    obtain ⟨⟨old, he⟩, hit, hne⟩ := st
    obtain ⟨xs, x, hq, hx⟩ := hg
    obtain ⟨its, rv, p, hz⟩ := I.tuple hq
    obtain ⟨u, hu, ru⟩ := rv.get hx
    have hel : e < s.heap.objs.size := Heap.lt_size he
    have hil : it < s.heap.objs.size := by obtain ⟨_, q, _⟩ := hit; exact Heap.lt_size q
    have hlt : i < its.toArray.size := by
      rw [List.size_toArray]; exact (List.getElem?_eq_some_iff.mp hu).1
    refine wpAny_pyNext_enum_itemD (Draws.tuple (A := X.A.in1) (by exact I.ok.hd hc) it a hai its.toArray) he ⟨hit, (show s.heap.IsTuple a its.toArray from p)⟩ hlt hne (by simp [hne, Ne.symm hae]) fun y h' tk hy ho hst hT hsz hk => ?_
    have hyu : y = u := by
      have hy' : its.toArray[i]? = some y := hy
      have : its.toArray[i]? = some u := by simpa using hu
      rw [this] at hy'; exact (Option.some.inj hy').symm
    subst hyu
    refine ⟨_, rfl, wpAny_letOwnedTupleGo_enum (s := { s with heap := h', toks := tk + 1 }) ho fun h'' he' sb => ?_⟩
    have hT2 : h''.get? s.heap.objs.size = some { cls := .type "tuple", data := .seq #[.int i tk, y] } := (sb.2 _ (Nat.ne_of_gt hel)).trans hT
    have new : ObjOk X.prog X.w (upd H s.heap.objs.size (.tup [.int (i : Nat), x])) h'' s.heap.objs.size (.tup [.int (i : Nat), x]) :=
      ⟨by show 2 ≤ sizeLine; decide, [.int i tk, y], .cons ⟨_, rfl⟩ (.cons ru .nil), ⟨_, hT2, rfl, _, rfl⟩⟩
    have I1 : Inv X pins σ (upd H s.heap.objs.size (.tup [.int (i : Nat), x])) { s with heap := h'', toks := tk + 1 } :=
      I.turnedNew (ch := [e, it]) (fun b ob hb q => (sb.2 b (fun z => hb (by simp [z]))).trans (hk b ob (fun z => hb (by simp [z])) (fun z => hb (by simp [z])) q)) hf (Nat.le_refl _) new
    refine ⟨.ref s.heap.objs.size, _, I1, rfl, ⟨_, x, rfl, I.hok.fresh (Nat.le_refl _), rfl, fun ys hy => by rw [I.tuple_inj hy hq]; exact hx⟩, ⟨⟨y, ?_⟩, hst.1.at fun o q => (sb.2 it (Ne.symm hne)).trans q, hne⟩, fun b hb => ?_⟩
    · have e1 : ((i + 1 : Nat) : Int) = (i : Int) + 1 := by omega
      rw [e1]; exact he'
    · have hb' : b < s.heap.objs.size := by
        have e' : b = e ∨ b = it := by simpa using hb
        rcases e' with z | z
        · rw [z]; exact hel
        · rw [z]; exact hil
      rw [upd_ne (Nat.ne_of_lt hb')]
      exact (hf b hb).1
  done := by
    intro X hP hw hK hc i pins s σ H E I hf st hg
    subst hP hw hK
    obtain ⟨⟨old, he⟩, hit, hne⟩ := st
    obtain ⟨xs, hq, hx⟩ := hg
    obtain ⟨its, rv, p, hz⟩ := I.tuple hq
    obtain ⟨f0, f1, f2, f3, f4, f5⟩ := hf it (by simp)
    have hl : its.toArray.size = i := by rw [List.size_toArray, ← rv.length]; exact hx
    subst hl
    exact wpAny_pyNext_enum_endD (Draws.tuple (A := X.A.in1) (by exact I.ok.hd hc) it a hai its.toArray) he ⟨hit, (show s.heap.IsTuple a its.toArray from p)⟩ fun h' eb => ⟨rfl, I.turned (t' := s.toks) (fun b o hb q => eb b o hb q) f0 f1 f3 f4 f5⟩
  self := fun A i s Q E st h => let ⟨⟨_, he⟩, _⟩ := st; wpAny_pyIter_enum he h
def iEnumA (K : PySem.W.Frag) (ta : TA) : TI := fun σ H R => ta σ H fun vs H1 => ∃ a xs, vs = [.ref a] ∧ ((SqL K H1 a xs ∧ R (Ite K a) H1) ∨ (SqT K H1 a xs ∧ R (IteT K a) H1))
theorem pi_enumA {X : Cx} {e : Expr} {ta : TA} {p pos tpos : Pos} {elts : List Expr} {kk : Nat} (hg : Gl X "enumerate") (hm : X.mg "enumerate" = none) (ha : PA X [e] ta) (hs : starEach [e] X.env = [(false, eval e X.env)]) :
    PI X (.Tuple elts kk tpos) (.Call (.Name "enumerate" p) [e] [] pos) (iEnumA X.K ta) := by
  refine ⟨fun pins s σ H R I h => ?_⟩
  refine Call_ (ld_blt I hg hm boot_enumerate (PyProof.Rows.callWith_type1 (thn (ha.run pos pins s σ H _ I h) fun us s1 ⟨vs, H1, I1, r1, q1⟩ => ?_) hs rfl))
  obtain ⟨a, xs, rfl, q⟩ := q1
  cases r1 with
  | cons r rr =>
    cases rr
    cases r
    have fresh : ∀ b, b ∈ [s1.heap.objs.size + 1, s1.heap.objs.size] → FpOk X pins H1 b := fun b hb => by
      have e' : b = s1.heap.objs.size + 1 ∨ b = s1.heap.objs.size := by simpa using hb
      have hle : s1.heap.objs.size ≤ b := by
        rcases e' with z | z
        · rw [z]; exact Nat.le_add_right _ _
        · rw [z]; exact Nat.le_refl _
      exact I1.fpOk hle (I1.hok.fresh hle)
    rcases q with ⟨hq, q⟩ | ⟨hq, q⟩
    · obtain ⟨its, rv, p', hz⟩ := I1.list hq
      refine call_enumerate_list p'.isList fun h' he hit hsz hk => wpAny_pyIter_enum he ?_
      exact ⟨s1.heap.objs.size + 1, [s1.heap.objs.size + 1, s1.heap.objs.size], _, _, H1, rfl, I1.kept (t' := s1.toks) hk, turn_enum a (s1.heap.objs.size + 1) s1.heap.objs.size, ⟨⟨.none, he⟩, hit, Nat.succ_ne_self _⟩, fresh, q⟩
    · obtain ⟨its, rv, p', hz⟩ := I1.tuple hq
      have ht : s1.heap.IsTuple a its.toArray := p'
      have hlt : a < s1.heap.objs.size := p'.lt
      refine call_enumT (begins_tuple a its.toArray) ht fun h' he hit hk => wpAny_pyIter_enum he ?_
      exact ⟨s1.heap.objs.size + 1, [s1.heap.objs.size + 1, s1.heap.objs.size], _, _, H1, rfl, I1.kept (t' := s1.toks) hk, turn_enumT a (s1.heap.objs.size + 1) s1.heap.objs.size (Nat.ne_of_lt (Nat.lt_succ_of_lt hlt)) (Nat.ne_of_lt hlt), ⟨⟨.none, he⟩, ⟨_, hit, rfl, rfl⟩, Nat.succ_ne_self _⟩, fresh, q⟩
end Pv
set_option Elab.async false
set_option maxRecDepth 100000
set_option linter.unusedVariables false
/-! Pv4: built-ins for data. -/
namespace Pv
open PySem PySem.Spec PyProof.Rows L2

/-- how a built-in stands: by its name among the built-ins (a function, a class), or imported -/
inductive BK where
  | fn (x : Str) (id : String)
  | ty (x : Str) (id : String)
  | im (x : Str) (id : String)
def biK : Bi → BK
  | .len => .fn "len" "len"
  | .abs => .fn "abs" "abs"
  | .int => .ty "int" "int"
  | .max => .fn "max" "max"
  | .min => .fn "min" "min"
  | .sum => .fn "sum" "sum"
  | .all => .fn "all" "all"
  | .any => .fn "any" "any"
  | .isInt => .fn "isinstance" "isinstance"
  | .isBool => .fn "isinstance" "isinstance"
  | .isTup => .fn "isinstance" "isinstance"
  | .repr => .fn "repr" "repr"
  | .gcd => .im "gcd" "math.gcd"
  | .isqrt => .im "isqrt" "math.isqrt"
  | .tuple => .ty "tuple" "tuple"
  | .list => .ty "list" "list"
  | .listRange => .ty "list" "list"
def BK.val : BK → Value
  | .fn _ id => .builtin id
  | .ty _ id => .type id
  | .im _ id => .builtin id
def biX : Bi → List V
  | .isInt => [.ty "int"]
  | .isBool => [.ty "bool"]
  | .isTup => [.ty "tuple"]
  | _ => []
inductive RdRs (K : PySem.W.Frag) (H : Hp) (av : List Addr) : List PyData → List V → Prop
  | nil : RdRs K H av [] []
  | cons {d : PyData} {ds : List PyData} {v : V} {vs : List V} (h : RdR K H av d v) (r : RdRs K H av ds vs) : RdRs K H av (d :: ds) (v :: vs)
mutual
theorem hasDict_of_dp {K : PySem.W.Frag} {H : Hp} : ∀ {v : V} {d : PyData}, Dp K H v d → d.hasDict = false
  | _, _, .non => by simp only [PyData.hasDict]
  | _, _, .bl _ => by simp only [PyData.hasDict]
  | _, _, .int _ => by simp only [PyData.hasDict]
  | _, _, .str _ => by simp only [PyData.hasDict]
  | _, _, .lst _ r => by simp only [PyData.hasDict]; exact hasDicts_of_dp r
  | _, _, .tup _ r => by simp only [PyData.hasDict]; exact hasDicts_of_dp r
theorem hasDicts_of_dp {K : PySem.W.Frag} {H : Hp} : ∀ {vs : List V} {ds : List PyData}, DpAll K H vs ds → PyData.hasDictAll ds = false
  | _, _, .nil => by simp only [PyData.hasDictAll]
  | _, _, .cons h r => by simp only [PyData.hasDictAll, hasDict_of_dp h, hasDicts_of_dp r, Bool.or_self]
end
section
variable {X : Cx} {H : Hp} {m av : List Addr} {S : Sto} {Q : VK}
theorem call_isqrt : CallR X (.builtin "math.isqrt") (fun xs H Q => ∃ i : Int, xs = [.int i] ∧ 0 ≤ i ∧ i.natAbs.log2 < 13000 ∧ Q (.int ((Float64.isqrt i.toNat : Nat) : Int)) H) := by
  intro pins s σ H xs us Q I r h
  obtain ⟨i, rfl, h0, h1, q⟩ := h
  obtain ⟨u, rfl, t, rfl⟩ := vals1 r
  have e : i.toNat = i.natAbs := by omega
  have h2 : i.toNat.log2 < 13000 := by rw [e]; exact h1
  exact call_function_meets PySem.W.MGF.kind_isqrt PySem.W.MGF.plain_isqrt PySem.W.MGF.entry_isqrt (PySem.W.MGF.args_isqrt _) (PySem.W.mg_run_isqrt i t (by omega) (by omega) (by omega)).meets ⟨.int _, H, I.tok _, ⟨_, rfl⟩, q⟩
theorem call_repr (hg : X.A.guards = some []) (hu : X.A.units + 200 < cLine) : CallR X (.builtin "repr") (fun xs H Q => ∃ x d, xs = [x] ∧ Dp X.K H x d ∧ reprOk d = true ∧ Q (.str d.shown) H) := by
  intro pins s σ H xs us Q I r h
  obtain ⟨x, d, rfl, hd, ok, q⟩ := h
  obtain ⟨u, rfl, ru⟩ := vals1 r
  unfold reprOk at ok
  rw [Bool.and_eq_true, Bool.and_eq_true, decide_eq_true_eq, decide_eq_true_eq] at ok
  obtain ⟨⟨o1, o2⟩, o3⟩ := ok
  cases hd with
  | non =>
    cases ru
    exact PySem.P.repr_of_none ⟨.str _, H, I.tok _, ⟨s.toks, by simp only [PyData.shown]⟩, q⟩
  | bl b =>
    cases ru
    exact PySem.P.repr_of_bool ⟨.str _, H, I.tok _, ⟨s.toks, by simp only [PyData.shown]⟩, q⟩
  | int i =>
    obtain ⟨t, rfl⟩ := ru
    exact PySem.P.repr_of_int (by simpa [PyData.showable] using o2) ⟨.str _, H, I.tok _, ⟨s.toks, by simp only [PyData.shown]⟩, q⟩
  | str x =>
    obtain ⟨t, rfl⟩ := ru
    exact PySem.P.repr_of_str ⟨.str _, H, I.tok _, ⟨s.toks, by simp only [PyData.shown]⟩, q⟩ (by simpa only [PyData.shown] using o3)
  | @lst a xs ds hs ha =>
    cases ru
    obtain ⟨as, rr⟩ := Dp.reads I _ _ _ (Dp.lst hs ha) rfl
    have nd : (PyData.list ds).hasDict = true → sysModules ∉ as := fun z => by
      have := hasDict_of_dp (Dp.lst hs ha)
      rw [this] at z; cases z
    exact repr_of_reads' rr o2 nd hg (by omega) (fun _ _ e => e) (fun h' u tk k => ⟨.str _, H, I.kept k, ⟨_, rfl⟩, q⟩) o3
  | @tup a xs ds hs ha =>
    cases ru
    obtain ⟨as, rr⟩ := Dp.reads I _ _ _ (Dp.tup hs ha) rfl
    have nd : (PyData.tuple ds).hasDict = true → sysModules ∉ as := fun z => by
      have := hasDict_of_dp (Dp.tup hs ha)
      rw [this] at z; cases z
    exact repr_of_reads' rr o2 nd hg (by omega) (fun _ _ e => e) (fun h' u tk k => ⟨.str _, H, I.kept k, ⟨_, rfl⟩, q⟩) o3
/-- what a value's kind is -/
theorem ty_of {x : PyData} {v : V} (r : RdR X.K H av x v) : ∃ t, TyX X.K H v (.type t) ∧ ((∃ i, x = .int i ∧ t = "int") ∨ (∃ b, x = .bool b ∧ t = "bool") ∨ (∃ ds, x = .tuple ds ∧ t = "tuple") ∨ (∃ ds, x = .list ds ∧ t = "list") ∨ (∃ s, x = .str s ∧ t = "str") ∨ (x = .none ∧ t = "NoneType")) := by
  cases x with
  | none => rw [r.non]; exact ⟨_, .base .non, .inr (.inr (.inr (.inr (.inr ⟨rfl, rfl⟩))))⟩
  | bool b => rw [r.bool]; exact ⟨_, .base (.bl b), .inr (.inl ⟨b, rfl, rfl⟩)⟩
  | int i => rw [r.int]; exact ⟨_, .base (.int i), .inl ⟨i, rfl, rfl⟩⟩
  | str s => rw [r.str]; exact ⟨_, .base (.str s), .inr (.inr (.inr (.inr (.inl ⟨s, rfl, rfl⟩))))⟩
  | list ds =>
    obtain ⟨a, vs, rfl, h, t⟩ := r.lst
    refine ⟨"list", ?_, .inr (.inr (.inr (.inl ⟨ds, rfl, rfl⟩)))⟩
    rcases h with (h | ⟨o, h⟩) | ⟨o, its, n, h, c, _⟩
    · exact .base (.lst h)
    · exact .base (.frz h)
    · exact .kList h c
  | tuple ds =>
    obtain ⟨a, vs, rfl, h, t⟩ := r.tup
    refine ⟨"tuple", ?_, .inr (.inr (.inl ⟨ds, rfl, rfl⟩))⟩
    rcases h with (h | ⟨o, h⟩) | ⟨o, its, n, h, c, _⟩
    · exact .base (.tup h)
    · exact .fTuple h
    · exact .kTuple h c
  | dict _ =>
    rcases r with r | ⟨_, _, _, e, _⟩
    · cases r
    · cases e
theorem isi_ok {x : PyData} {v : V} {T : String} {b : Bool} (r : RdR X.K H av x v) (hb : ∀ t, TyX X.K H v (.type t) → ((∃ i, x = .int i ∧ t = "int") ∨ (∃ b, x = .bool b ∧ t = "bool") ∨ (∃ ds, x = .tuple ds ∧ t = "tuple") ∨ (∃ ds, x = .list ds ∧ t = "list") ∨ (∃ s, x = .str s ∧ t = "str") ∨ (x = .none ∧ t = "NoneType")) → kitB t T = some b)
    (q : Q (.bl b) H) : wcl X (.builtin "isinstance") [v, .ty T] H Q := by
  obtain ⟨t, h1, h2⟩ := ty_of r
  exact wcl_of call_isi ⟨v, .ty T, .type t, .type T, b, rfl, .ty T, h1, kit_ty (hb t h1 h2), q⟩
theorem q_same {Z : Kc} {ou : Option (En × L2.St)} {v : V} {z : PyData} (R : Rel Z ou m av H S) (q : ∀ H' v, Evo m H [] H' → Rel Z ou m av H' S → Rep X.K H' av z v → Q v H') (h : Rep X.K H av z v) : Q v H := q H v Evo.refl R h
theorem bi_ok {Z : Kc} {ou : Option (En × L2.St)} (hc : X.calm = true) (hg : X.A.guards = some []) (hu : X.A.units + 200 < cLine) {f : Bi} {ds : List PyData} {vs : List V} {z : PyData} (nl : f ≠ .listRange) (e : biD f ds = some z) (r : RdRs X.K H av ds vs) (R : Rel Z ou m av H S)
    (q : ∀ H' v, Evo m H [] H' → Rel Z ou m av H' S → Rep X.K H' av z v → Q v H') : wcl X (biK f).val (vs ++ biX f) H Q := by
  have qs := fun {v} (h : Rep X.K H av z v) => q_same R q h
  unfold biD at e
  split at e
  · -- len list
    cases r with | cons h t => cases t; cases e; obtain ⟨a, us, rfl, h, t⟩ := h.lst; exact wcl_of call_len_seq ⟨a, us, rfl, .inl h, by rw [← t.length]; exact qs (.int _)⟩
  · cases r with | cons h t => cases t; cases e; obtain ⟨a, us, rfl, h, t⟩ := h.tup; exact wcl_of call_len_seq ⟨a, us, rfl, .inr h, by rw [← t.length]; exact qs (.int _)⟩
  · split at e <;> cases e
    rename_i hz
    cases r with | cons h t => cases t; rw [h.str]; exact wcl_of call_len_str ⟨_, rfl, hz, qs (.int _)⟩
  · cases e; cases r with | cons h t => cases t; rw [h.int]; exact wcl_of call_abs ⟨_, rfl, qs (.int _)⟩
  · cases e; cases r with | cons h t => cases t; rw [h.int]; exact wcl_of call_int1 (.inl ⟨_, rfl, qs (.int _)⟩)
  · cases e; cases r with | cons h t => cases t; rw [h.bool]; exact wcl_of call_int1 (.inr ⟨_, rfl, qs (.int _)⟩)
  · cases e; cases r with | cons h t => cases t with | cons h2 t => cases t; rw [h.int, h2.int]; exact wcl_of (call_max2 hc) ⟨_, _, rfl, qs (.int _)⟩
  · cases e; cases r with | cons h t => cases t with | cons h2 t => cases t; rw [h.int, h2.int]; exact wcl_of (call_min2 hc) ⟨_, _, rfl, qs (.int _)⟩
  · rename_i xs
    cases w : asInts xs with
    | none => rw [w] at e; cases e
    | some ns =>
      rw [w] at e; cases e
      cases r with | cons h t => cases t; obtain ⟨a, us, rfl, h, t⟩ := h.lst; rw [asInts_rep t w] at h; exact wcl_of (cr_sum hc) ⟨a, ns, rfl, h, qs (.int _)⟩
  · rename_i xs
    cases w : asBools xs with
    | none => rw [w] at e; cases e
    | some ns =>
      rw [w] at e; cases e
      cases r with | cons h t => cases t; obtain ⟨a, us, rfl, h, t⟩ := h.lst; rw [asBools_rep t w] at h; exact wcl_of (cr_all hc) ⟨a, ns, rfl, h, qs (.bool _)⟩
  · rename_i xs
    cases w : asBools xs with
    | none => rw [w] at e; cases e
    | some ns =>
      rw [w] at e; cases e
      cases r with | cons h t => cases t; obtain ⟨a, us, rfl, h, t⟩ := h.lst; rw [asBools_rep t w] at h; exact wcl_of (cr_any hc) ⟨a, ns, rfl, h, qs (.bool _)⟩
  · cases e; cases r with | cons h t => cases t; exact isi_ok h (fun t _ z => by rcases z with ⟨i, e, rfl⟩ | ⟨i, e, rfl⟩ | ⟨i, e, rfl⟩ | ⟨i, e, rfl⟩ | ⟨i, e, rfl⟩ | ⟨e, rfl⟩ <;> first | contradiction | decide +kernel) (qs (.bool _))
  · cases e; cases r with | cons h t => cases t; exact isi_ok h (fun t _ z => by rcases z with ⟨i, e, rfl⟩ | ⟨i, e, rfl⟩ | ⟨i, e, rfl⟩ | ⟨i, e, rfl⟩ | ⟨i, e, rfl⟩ | ⟨e, rfl⟩ <;> first | contradiction | decide +kernel) (qs (.bool _))
  · rename_i n1 n2
    cases e; cases r with | cons h t => cases t; exact isi_ok h (fun t _ z => by rcases z with ⟨i, e, rfl⟩ | ⟨i, e, rfl⟩ | ⟨i, e, rfl⟩ | ⟨i, e, rfl⟩ | ⟨i, e, rfl⟩ | ⟨e, rfl⟩ <;> first | (exact (n1 _ e).elim) | (exact (n2 _ e).elim) | decide +kernel) (qs (.bool _))
  · cases e; cases r with | cons h t => cases t; exact isi_ok h (fun t _ z => by rcases z with ⟨i, e, rfl⟩ | ⟨i, e, rfl⟩ | ⟨i, e, rfl⟩ | ⟨i, e, rfl⟩ | ⟨i, e, rfl⟩ | ⟨e, rfl⟩ <;> first | contradiction | decide +kernel) (qs (.bool _))
  · rename_i n1
    cases e; cases r with | cons h t => cases t; exact isi_ok h (fun t _ z => by rcases z with ⟨i, e, rfl⟩ | ⟨i, e, rfl⟩ | ⟨i, e, rfl⟩ | ⟨i, e, rfl⟩ | ⟨i, e, rfl⟩ | ⟨e, rfl⟩ <;> first | (exact (n1 _ e).elim) | decide +kernel) (qs (.bool _))
  · cases e; cases r with | cons h t => cases t; exact isi_ok h (fun t _ z => by rcases z with ⟨i, e, rfl⟩ | ⟨i, e, rfl⟩ | ⟨i, e, rfl⟩ | ⟨i, e, rfl⟩ | ⟨i, e, rfl⟩ | ⟨e, rfl⟩ <;> first | contradiction | decide +kernel) (qs (.bool _))
  · rename_i n1
    cases e; cases r with | cons h t => cases t; exact isi_ok h (fun t _ z => by rcases z with ⟨i, e, rfl⟩ | ⟨i, e, rfl⟩ | ⟨i, e, rfl⟩ | ⟨i, e, rfl⟩ | ⟨i, e, rfl⟩ | ⟨e, rfl⟩ <;> first | (exact (n1 _ e).elim) | decide +kernel) (qs (.bool _))
  · split at e <;> cases e
    rename_i hz
    cases r with | cons h t => cases t; exact wcl_of (call_repr hg hu) ⟨_, _, rfl, h.dp, hz, qs (.str _)⟩
  · cases e; cases r with | cons h t => cases t with | cons h2 t => cases t; rw [h.int, h2.int]; exact wcl_of cr_gcd ⟨_, _, rfl, qs (.int _)⟩
  · split at e <;> cases e
    rename_i hz
    cases r with | cons h t => cases t; rw [h.int]; exact wcl_of call_isqrt ⟨_, rfl, hz.1, hz.2, qs (.int _)⟩
  · cases e; cases r with | cons h t => cases t; obtain ⟨a, us, rfl, h, t⟩ := h.lst; refine wcl_of call_tuple_of ⟨a, us, rfl, .inl ⟨h, fun l hl => ?_⟩⟩; obtain ⟨e1, R1, n1⟩ := R.laid (o := .tup us) hl; refine q _ _ e1 R1 ?_; have t' := RepAll.evo e1 R.sub t; rw [List.append_nil] at t'; exact .tupH (.inl upd_same) n1 t'
  · cases e; cases r with | cons h t => cases t; cases h with
      | inl h => obtain ⟨a, us, rfl, h2, t⟩ := (show RdR X.K H av _ _ from .inl h).tup; exact wcl_of call_tuple_of ⟨a, us, rfl, .inr ⟨h2, qs h⟩⟩
      | inr h => obtain ⟨_, _, _, e, _⟩ := h; cases e
  · cases e; cases r with | cons h t => cases t; obtain ⟨a, us, rfl, h, t⟩ := h.lst; refine wcl_of call_list_of ⟨a, us, rfl, .inl h, fun l hl => ?_⟩; obtain ⟨e1, R1, n1⟩ := R.laid (o := .lst us) hl; refine q _ _ e1 R1 ?_; have t' := RepAll.evo e1 R.sub t; rw [List.append_nil] at t'; exact .lstH (.inl upd_same) n1 t'
  · cases e; cases r with | cons h t => cases t; obtain ⟨a, us, rfl, h, t⟩ := h.tup; refine wcl_of call_list_of ⟨a, us, rfl, .inr h, fun l hl => ?_⟩; obtain ⟨e1, R1, n1⟩ := R.laid (o := .lst us) hl; refine q _ _ e1 R1 ?_; have t' := RepAll.evo e1 R.sub t; rw [List.append_nil] at t'; exact .lstH (.inl upd_same) n1 t'
  · exact (nl rfl).elim
  · cases e
end
end Pv
set_option Elab.async false
set_option maxRecDepth 100000
set_option linter.unusedVariables false
/-! Pv5: which text is which expression; what it does. -/
namespace Pv
open PySem PySem.Spec PyProof.Rows L2

/-- the text's facts: constants, defs by number, imported built-ins, the built-ins that stand, lambdas, exception classes by number, what is below which -/
structure Stat where
  G : Str → Option PyData
  F : Str → Option Nat
  ps : Nat → List Str
  kw : Nat → Bool
  im : Str → Option String
  bl : List Str
  lm : Nat → Option LamD := fun _ => none
  cn : Str → Option Nat := fun _ => none
  sb : Nat → List Nat := fun _ => []
/-- where one stands: the cells and the names of the def whose lambdas are about; where classes, tables lie -/
structure Zt where
  cl : List (Str × Addr)
  ou : Option (En × SL)
  ca : Nat → Option Addr
  lm : Nat → Option LamD
  tb : Nat → Option (Addr × Str)
abbrev zk (K : PySem.W.Frag) (z : Zt) : Kc := ⟨K, z.cl, z.ca, z.lm, z.tb⟩
abbrev zc (X : Cx) (z : Zt) : Kc := zk X.K z

/-- an exception: its class, its value, as it lies in the heap -/
def ExR (K : PySem.W.Frag) (ca : Nat → Option Addr) (H : Hp) (av : List Addr) (c : Nat) (p : PyData) (cls : Value) (d : Option Addr) : Prop :=
  ∃ (C dd : Addr) (fs : List (Str × V)) (v : V), ca c = some C ∧ cls = .ref C ∧ d = some dd ∧ dd ∉ av ∧ H dd = some (.xd fs) ∧ fs.lookup ("value" : Str) = some v ∧ Rep K H av p v
section
variable (Z : Kc) (ou : Option (En × SL))
def Post {α β : Type} (rep : Hp → List Addr → List Addr → α → β → Prop) (m av : List Addr) (H : Hp) (r : R α) (Q : β → Hp → Prop) (E : XK) : Prop := match r with
  | .ok a S' => ∀ ms H' v, Evo m H ms H' → Rel Z ou (m ++ ms) (av ++ ms) H' S' → rep H' (m ++ ms) (av ++ ms) a v → Q v H'
  | .ex c p S' => ∀ ms H' cls d, Evo m H ms H' → Rel Z ou (m ++ ms) (av ++ ms) H' S' → ExR Z.K Z.ca H' (av ++ ms) c p cls d → E cls d H'
  | .no => False
abbrev PostA := Post Z ou (RepA Z)
inductive RepAs (H : Hp) (m av : List Addr) : List A → List V → Prop
  | nil : RepAs H m av [] []
  | cons {x : A} {v : V} {as : List A} {vs : List V} (h : RepA Z H m av x v) (r : RepAs H m av as vs) : RepAs H m av (x :: as) (v :: vs)
abbrev PostL := Post Z ou (RepAs Z)
abbrev PostB := Post Z ou (fun _ _ _ (b k : Bool) => k = b)
end
section
variable {Z : Kc} {ou : Option (En × SL)} {α β γ δ : Type} {rep : Hp → List Addr → List Addr → γ → β → Prop} {m av ms : List Addr} {H H1 : Hp} {r : R α} {f : α → Sto → R γ} {Q : β → Hp → Prop} {E : XK}
theorem Post.step (h : Post Z ou rep m av H (r.bind f) Q E) {x : α} {S1 : Sto} (e : r = .ok x S1) (Ev : Evo m H ms H1) (R1 : Rel Z ou (m ++ ms) (av ++ ms) H1 S1) : Post Z ou rep (m ++ ms) (av ++ ms) H1 (f x S1) Q E := by
  subst e
  rw [R.bind_ok] at h
  cases q : f x S1 with
  | ok y S2 =>
    rw [q] at h
    intro ns H2 v E2 R2 rv
    rw [List.append_assoc, List.append_assoc] at R2 rv
    exact h (ms ++ ns) H2 v (Evo.trans R1 Ev E2) R2 rv
  | ex c p S =>
    rw [q] at h
    intro ns H2 cls d E2 R2 rv
    rw [List.append_assoc] at rv
    rw [List.append_assoc, List.append_assoc] at R2
    exact h (ms ++ ns) H2 cls d (Evo.trans R1 Ev E2) R2 rv
  | no => rw [q] at h; exact h.elim
/-- the first of two: an exception of it is the whole's -/
theorem Post.into {rep1 : Hp → List Addr → List Addr → α → δ → Prop} {Q' : δ → Hp → Prop} (h : Post Z ou rep m av H (r.bind f) Q E) (k : ∀ x S1, r = .ok x S1 → ∀ ms H1 v, Evo m H ms H1 → Rel Z ou (m ++ ms) (av ++ ms) H1 S1 → rep1 H1 (m ++ ms) (av ++ ms) x v → Q' v H1) : Post Z ou rep1 m av H r Q' E := by
  cases r with
  | ok x S => exact k x S rfl
  | ex c p S => exact h
  | no => exact h.elim
theorem Post.calmed (h : Post Z ou rep m av H (r.calm.bind f) Q E) : ∃ x S1, r = .ok x S1 ∧ Post Z ou rep m av H ((R.ok x S1).bind f) Q E := by
  cases r with
  | ok x S => exact ⟨x, S, rfl, h⟩
  | ex c p S => exact h.elim
  | no => exact h.elim
theorem post_ok {rep : Hp → List Addr → List Addr → α → β → Prop} {a : α} {S1 : Sto} (e : r = .ok a S1) (k : ∀ ms H' v, Evo m H ms H' → Rel Z ou (m ++ ms) (av ++ ms) H' S1 → rep H' (m ++ ms) (av ++ ms) a v → Q v H') : Post Z ou rep m av H r Q E := by
  subst e; exact k
/-- at once -/
theorem Post.now {rep : Hp → List Addr → List Addr → α → β → Prop} {a : α} {S : Sto} {v : β} (h : Post Z ou rep m av H (.ok a S) Q E) (R : Rel Z ou m av H S) (rv : rep H m av a v) : Q v H := by
  have := h [] H v Evo.refl (by rw [List.append_nil, List.append_nil]; exact R) (by rw [List.append_nil, List.append_nil]; exact rv)
  exact this
/-- behind a change that the store does not see -/
theorem Post.later {rep : Hp → List Addr → List Addr → α → β → Prop} {a : α} {S : Sto} {v : β} (h : Post Z ou rep m av H (.ok a S) Q E) (Ev : Evo m H ms H1) (R : Rel Z ou (m ++ ms) (av ++ ms) H1 S) (rv : rep H1 (m ++ ms) (av ++ ms) a v) : Q v H1 := h ms H1 v Ev R rv
theorem Post.some {rep : Hp → List Addr → List Addr → α → β → Prop} {o : Option α} {S : Sto} (h : Post Z ou rep m av H (R.opt S o) Q E) : ∃ a, o = Option.some a ∧ Post Z ou rep m av H (.ok a S) Q E := by
  cases o with
  | none => exact h.elim
  | some a => exact ⟨a, rfl, h⟩
theorem RepAs.evo {S : Sto} (R : Rel Z ou m av H S) (e : Evo m H ms H1) : ∀ {as : List A} {vs : List V}, RepAs Z H m av as vs → RepAs Z H1 (m ++ ms) (av ++ ms) as vs
  | _, _, .nil => .nil
  | _, _, .cons h r => .cons (RepA.evo R e h) (RepAs.evo R e r)
theorem RepAs.length : ∀ {as : List A} {vs : List V}, RepAs Z H m av as vs → as.length = vs.length
  | _, _, .nil => rfl
  | _, _, .cons _ r => by simp [RepAs.length r]
theorem datas_rep : ∀ {as : List A} {vs : List V} {ds : List PyData}, RepAs Z H m av as vs → datas as = Option.some ds → RepAll Z.K H av ds vs
  | [], _, _, h, e => by cases h; simp only [datas, Option.some.injEq] at e; subst e; exact .nil
  | .ref _ :: _, _, _, h, e => by simp [datas] at e
  | .tup _ :: _, _, _, h, e => by simp [datas] at e
  | .exc _ _ :: _, _, _, h, e => by simp [datas] at e
  | .lam _ :: _, _, _, h, e => by simp [datas] at e
  | .d x :: as, _, _, h, e => by
    cases h with
    | cons h t =>
      simp only [datas] at e
      cases q : datas as with
      | none => rw [q] at e; cases e
      | some ds =>
        rw [q] at e
        simp only [Option.map_some, Option.some.injEq] at e
        subst e
        exact .cons h (datas_rep t q)
theorem rds_rep {S : Sto} (R : Rel Z ou m av H S) : ∀ {as : List A} {vs : List V} {ds : List PyData}, RepAs Z H m av as vs → rds S as = Option.some ds → RdRs Z.K H av ds vs
  | [], _, _, h, e => by cases h; simp only [rds, Option.some.injEq] at e; subst e; exact .nil
  | a :: as, _, _, h, e => by
    cases h with
    | cons h t =>
      simp only [rds] at e
      cases q : rd S a with
      | none => rw [q] at e; cases e
      | some d =>
        rw [q] at e
        cases q2 : rds S as with
        | none => rw [q2] at e; cases e
        | some ds =>
          rw [q2] at e
          simp only [Option.bind_some, Option.map_some, Option.some.injEq] at e
          subst e
          exact .cons (rd_rep R h q) (rds_rep R t q2)
end

/-- nothing is wished of an exception -/
theorem takes_no {X : Cx} : Takes X (fun _ _ _ _ => False) := fun _ _ x => by
  obtain ⟨_, _, _, _, _, _, _, _, _, _, _, _, _, _, _, _, z⟩ := x
  exact z.elim
/-- the lambdas, called by whoever stands deeper than the state that h0 and H0 tell -/
def LamOk (P : Program) (w : World) (K : PySem.W.Frag) (mg : Str → Option Value) (base : Heap) (Z : Kc) (ou : Option (En × SL)) (lc : LamC) (fs ex : List Addr) (H0 : Hp) (h0 : Heap) : Prop :=
  ∀ (A' : Around) (outer : List Env) (s : Shared) (H : Hp) (k : Nat) (f : Addr) (m av : List Addr) (S : Sto) (Q : VK) (E : XK), Room lc.l A' → A'.guards = some [] → Env0 P w K mg base A' outer s H → Un fs ex H0 H h0 s.heap →
    RepA Z H m av (.lam k) (.ref f) → Rel Z ou m av H S → PostA Z ou m av H (lc.run k S) Q E → codeAny (model P w) A' (.call (.ref f) ⟨[], []⟩) (CR (L2.CX P w) outer P w H s Q E) s
theorem lamOk_no {P : Program} {w : World} {K : PySem.W.Frag} {mg : Str → Option Value} {base : Heap} {Z : Kc} {ou : Option (En × SL)} {fs ex : List Addr} {H0 : Hp} {h0 : Heap} : LamOk P w K mg base Z ou noLam fs ex H0 h0 :=
  fun _ _ _ _ _ _ _ _ _ _ _ _ _ _ _ _ _ P => P.elim
/-- a def at f keeps what call says of it -/
def FnD (P : Program) (w : World) (K : PySem.W.Frag) (ca : Nat → Option Addr) (lm : Nat → Option LamD) (tb : Nat → Option (Addr × Str)) (mg : Str → Option Value) (base : Heap) (d : Nat) (call : LamC → List A → Sto → R A) (f : Addr) (ps : List Str) (kw : Bool) : Prop :=
  ∃ fd : FuncData, (∀ (s : Shared) (us : List Value), us.length = ps.length → BindsTo s fd ⟨us, []⟩ (ps.zip us)) ∧ (kw = true → ∀ (s : Shared) (us : List Value), us.length = ps.length → BindsTo s fd ⟨[], ps.zip us⟩ (ps.zip us)) ∧
    ∀ (cl : List (Str × Addr)) (ou : Option (En × SL)) (lc : LamC) (A' : Around) (outer : List Env) (s : Shared) (H : Hp) (args : Args) (us : List Value) (vs : List V) (as : List A) (m av : List Addr) (S : Sto) (Q : VK) (E : XK), Room d A' → A'.guards = some [] → Env0 P w K mg base A' outer s H →
      BindsTo s fd args (ps.zip us) → us.length = ps.length → Vals vs us → RepAs ⟨K, cl, ca, lm, tb⟩ H m av as vs → Rel ⟨K, cl, ca, lm, tb⟩ ou m av H S → LamOk P w K mg base ⟨K, cl, ca, lm, tb⟩ ou lc (frs outer) [] H s.heap → PostA ⟨K, cl, ca, lm, tb⟩ ou m av H (call lc as S) Q E →
      codeAny (model P w) A' (.call (.ref f) args) (CR (L2.CX P w) outer P w H s Q E) s
/-- a class of exceptions, called by its name x -/
def MkOk (P : Program) (w : World) (K : PySem.W.Frag) (mg : Str → Option Value) (base : Heap) (x : Str) (C : Addr) : Prop :=
  ∀ (X : Cx) (e : Expr) (te : TE) (p pos : Pos), X.prog = P → X.w = w → X.K = K → X.mg = mg → X.base = base → Room 2 X.A → Gl X x → (x == ("__debug__" : Str)) = false → PE X e te → (∀ es env, starEach (e :: es) env = (false, eval e env) :: starEach es env) →
    PMk X (.Call (.Name x p) [e] [] pos) (fun σ H Q => te σ H fun v H1 => ∀ d, H1 d = none → Q (.ref C) (some d) (upd H1 d (.xd [("value", v)])))
/-- the classes of exceptions -/
structure ExcOk (g : Stat) (P : Program) (w : World) (K : PySem.W.Frag) (mg : Str → Option Value) (base : Heap) (ca : Nat → Option Addr) : Prop where
  made : ∀ x k, g.cn x = some k → ∃ C, mg x = some (.ref C) ∧ ca k = some C ∧ MkOk P w K mg base x C
  sub : ∀ k k' C C', ca k = some C → ca k' = some C' → PySem.W.exmOne K (.ref C') (.ref C) = some ((g.sb k).contains k') ∧ PySem.W.kitOne K (.ref C') (.ref C) = some ((g.sb k).contains k')
  ve : ∀ k C, ca k = some C → PySem.W.kitOne K (.ref C) (.type "ValueError") = some true
  cls : ∀ k C, ca k = some C → ExcC K C ∧ XfC K C ∧ PySem.W.findIn K (.ref C) "value" = some none

structure XOk (g : Stat) (N : List Str) (sc : Scope) (d : Nat) (c : Cfg) (X : Cx) (z : Zt) : Prop where
  N_ : X.N = N
  sc_ : X.env.scope = sc
  nd : N.Nodup
  room : Room d X.A
  gds : X.A.guards = some []
  calm : X.calm = true
  glob : ∀ x dt, g.G x = some dt → ∃ u v, X.mg x = some u ∧ RelV v u ∧ ∀ H av, Rep X.K H av dt v
  bl : ∀ x ∈ g.bl, X.mg x = none
  im : ∀ x id, g.im x = some id → X.mg x = some (.builtin id)
  calls : ∀ x k, g.F x = some k → ∃ f, X.mg x = some (.ref f) ∧ PySem.W.keepIn X.K (.ref f) = true ∧ FnD X.prog X.w X.K z.ca z.lm z.tb X.mg X.base d (fun lc => c.call lc k) f (g.ps k) (g.kw k) ∧ (∀ lc as S, as.length ≠ (g.ps k).length → c.call lc k as S = .no)
  exc : ExcOk g X.prog X.w X.K X.mg X.base z.ca
  lm : z.lm = g.lm
  dd : c.d = d
  /-- the lambdas, from a state of this frame on: of the def's own names, if it makes them -/
  lams : ∀ pins σd σ H s m av S, Inv X pins σ H s → EnR (zc X z) H m av σd σ → Rel (zc X z) z.ou m av H S →
    ∃ ou', Rel (zc X z) ou' m av H S ∧ LamOk X.prog X.w X.K X.mg X.base (zc X z) ou' (c.lam σd) (frs X.stack) [] H s.heap ∧ ∀ m av H S, Rel (zc X z) ou' m av H S → Rel (zc X z) z.ou m av H S
  tab : ∀ j, c.tb = some j → ∃ cd P q, X.env.code = .ref cd ∧ LamX.TabB X.base X.mg cd P ∧ z.tb j = some (P, q) ∧ q = X.env.qual ++ "<lambda>" ∧ z.cl = X.env.cells ∧ ∀ k L, g.lm k = some L → L.own = j → L.q = q

def Gb (sc : Scope) (x : Str) : Prop := sc.names.lookup x = some .globalImplicit
theorem XOk.gl {g : Stat} {N : List Str} {sc : Scope} {d : Nat} {c : Cfg} {X : Cx} {z : Zt} (ok : XOk g N sc d c X z) {x : Str} (h : Gb sc x) : Gl X x := by
  show X.env.scope.names.lookup x = _
  rw [ok.sc_]; exact h

/-- targets, in the frame of the def or of a comprehension -/
inductive TrTs (N : List Str) : Scope → Scope → List Expr → List Nat → Prop
  | nil {sc scope} : TrTs N sc scope [] []
  | cons {sc scope x p es i is} (h : N[i]? = some x) (l : Loc sc x) (hf : scope.names.lookup x = some .cell ∨ sc.names.lookup x = some .local) (r : TrTs N sc scope es is) : TrTs N sc scope (.Name x p :: es) (i :: is)
inductive TrT (N : List Str) : Scope → Scope → Expr → Tg → Prop
  | n {sc scope x p i} (h : N[i]? = some x) (l : Loc sc x) (hf : scope.names.lookup x = some .cell ∨ sc.names.lookup x = some .local) : TrT N sc scope (.Name x p) (.n i)
  | t {sc scope es k p is} (h : TrTs N sc scope es is) : TrT N sc scope (.Tuple es k p) (.t is)
def slotsOf : Tg → List Nat
  | .n i => [i]
  | .t is => is
def keyI : Option Expr → Option Int
  | some (.Constant (.int i) _ _) => some i
  | _ => none
/-- a new list comes of it -/
def isFr : Ex → Bool
  | .lst _ => true
  | .repF _ _ => true
  | .catF _ _ => true
  | .lc _ _ _ _ _ => true
  | _ => false
def isFrE : Expr → Bool
  | .List _ _ => true
  | .BinOp _ _ _ _ => true
  | .ListComp _ _ _ _ => true
  | _ => false
def isNm : Expr → Bool
  | .Name _ _ => true
  | _ => false
mutual
inductive TrE (g : Stat) (N : List Str) : Scope → Expr → Ex → Prop
  | var {sc x p i} (h : N[i]? = some x) (v : Vis sc x) (d1 : (x == ("__debug__" : Str)) = false) (d2 : (x == ("__classdict__" : Str)) = false) : TrE g N sc (.Name x p) (.v i)
  | int {sc i j p} : TrE g N sc (.Constant (.int i) j p) (.k (.int i))
  | bool {sc b j p} : TrE g N sc (.Constant (.bool b) j p) (.k (.bool b))
  | non {sc j p} : TrE g N sc (.Constant .none j p) (.k .none)
  | str {sc s j p} : TrE g N sc (.Constant (.str s) j p) (.k (.str s))
  | glob {sc x p dt} (h : Gb sc x) (hg : g.G x = some dt) (d1 : (x == ("__debug__" : Str)) = false) : TrE g N sc (.Name x p) (.k dt)
  | bin {sc a b a' b' p} (o : BOp) (ha : TrE g N sc a a') (hb : TrE g N sc b b') : TrE g N sc (.BinOp a (opOf o) b p) (.bin o a' b')
  | neg {sc a a' p} (ha : TrE g N sc a a') : TrE g N sc (.UnaryOp .USub a p) (.neg a')
  | not {sc a a' p} (ha : TrE g N sc a a') : TrE g N sc (.UnaryOp .Not a p) (.not a')
  | cmp {sc a b a' b' p} (o : COp) (ha : TrE g N sc a a') (hb : TrE g N sc b b') : TrE g N sc (.Compare a [copOf o] [b] p) (.cmp o a' b')
  | chain {sc a b e a' b' e' p} (o o' : COp) (ha : TrE g N sc a a') (hb : TrE g N sc b b') (he : TrE g N sc e e') : TrE g N sc (.Compare a [copOf o, copOf o'] [b, e] p) (.chain o o' a' b' e')
  | one {sc op a a' p} (ha : TrE g N sc a a') : TrE g N sc (.BoolOp op [a] p) a'
  | and {sc a b r a' r' p} (ha : TrE g N sc a a') (hr : TrE g N sc (.BoolOp .And (b :: r) p) r') : TrE g N sc (.BoolOp .And (a :: b :: r) p) (.and a' r')
  | or {sc a b r a' r' p} (ha : TrE g N sc a a') (hr : TrE g N sc (.BoolOp .Or (b :: r) p) r') : TrE g N sc (.BoolOp .Or (a :: b :: r) p) (.or a' r')
  | ite {sc t a b t' a' b' p} (ht : TrE g N sc t t') (ha : TrE g N sc a a') (hb : TrE g N sc b b') : TrE g N sc (.IfExp t a b p) (.ite t' a' b')
  | tup {sc es xs k p} (h : TrEs g N sc es xs) (hl : es.length ≤ 1000) : TrE g N sc (.Tuple es k p) (.tup xs)
  | lst {sc es xs p} (h : TrEs g N sc es xs) (hl : es.length ≤ 1000) : TrE g N sc (.List es p) (.lst xs)
  | lstM {sc es xs p} (h : TrEs g N sc es xs) (hl : es.length ≤ 1000) : TrE g N sc (.List es p) (.lstM xs)
  | call {sc x p e es xs pos k} (h : Gb sc x) (hf : g.F x = some k) (d1 : (x == ("__debug__" : Str)) = false) (hs : TrEs g N sc (e :: es) xs) : TrE g N sc (.Call (.Name x p) (e :: es) [] pos) (.call k xs)
  | call0 {sc x p pos k} (h : Gb sc x) (hf : g.F x = some k) (d1 : (x == ("__debug__" : Str)) = false) : TrE g N sc (.Call (.Name x p) [] [] pos) (.call k .nil)
  | callK {sc x p q kws xs pos k} (h : Gb sc x) (hf : g.F x = some k) (hk : g.kw k = true) (d1 : (x == ("__debug__" : Str)) = false) (hs : TrKs g N sc (q :: kws) (g.ps k) xs) : TrE g N sc (.Call (.Name x p) [] (q :: kws) pos) (.call k xs)
  | biF {sc x id p e es xs pos} (f : Bi) (hf : biK f = .fn x id) (hx : biX f = []) (hb : bootBuiltins x = some (.builtin id)) (hl : x ∈ g.bl) (h : Gb sc x) (d1 : (x == ("__debug__" : Str)) = false) (d2 : x ≠ "__name__") (hs : TrEs g N sc (e :: es) xs) : TrE g N sc (.Call (.Name x p) (e :: es) [] pos) (.bi f xs)
  | biT {sc x id p e es xs pos} (f : Bi) (hf : biK f = .ty x id) (nr : f ≠ .listRange) (hb : bootBuiltins x = some (.type id)) (hl : x ∈ g.bl) (h : Gb sc x) (d1 : (x == ("__debug__" : Str)) = false) (d2 : x ≠ "__name__") (hs : TrEs g N sc (e :: es) xs) : TrE g N sc (.Call (.Name x p) (e :: es) [] pos) (.bi f xs)
  | biI {sc x id p e es xs pos} (f : Bi) (hf : biK f = .im x id) (hi : g.im x = some id) (h : Gb sc x) (d1 : (x == ("__debug__" : Str)) = false) (hs : TrEs g N sc (e :: es) xs) : TrE g N sc (.Call (.Name x p) (e :: es) [] pos) (.bi f xs)
  | isi {sc p p2 T e e' pos} (f : Bi) (hf : biK f = .fn "isinstance" "isinstance") (hT : biX f = [.ty T]) (hb : bootBuiltins (Str.ofString T) = some (.type T)) (hl : ("isinstance" : Str) ∈ g.bl) (hl2 : Str.ofString T ∈ g.bl) (h : Gb sc "isinstance") (h2 : Gb sc (Str.ofString T))
      (d1 : (Str.ofString T == ("__debug__" : Str)) = false) (d2 : Str.ofString T ≠ "__name__") (he : TrE g N sc e e') : TrE g N sc (.Call (.Name "isinstance" p) [e, .Name (Str.ofString T) p2] [] pos) (.bi f (.cons e' .nil))
  | lrange {sc p p2 e e' pos pos2} (hl : ("list" : Str) ∈ g.bl) (hl2 : ("range" : Str) ∈ g.bl) (h : Gb sc "list") (h2 : Gb sc "range") (he : TrE g N sc e e') : TrE g N sc (.Call (.Name "list" p) [.Call (.Name "range" p2) [e] [] pos2] [] pos) (.bi .listRange (.cons e' .nil))
  | ix {sc a b a' b' p} (ha : TrE g N sc a a') (hb : TrE g N sc b b') : TrE g N sc (.Subscript a b p) (.ix a' b')
  | dix {sc keys values i ks vs i' p p2} (hk : keys.map keyI = ks.map some) (nd : ks.Nodup) (h15 : ks.length ≤ 15) (h0 : keys ≠ []) (hl : keys.length = values.length) (hv : TrEs g N sc values vs) (hi : TrE g N sc i i') : TrE g N sc (.Subscript (.Dict keys values p2) i p) (.dix ks vs i')
  | slice {sc a a' lo hi l h p p2} (ha : TrE g N sc a a') (hl : TrO g N sc lo l) (hh : TrO g N sc hi h) : TrE g N sc (.Subscript a (.Slice lo hi none p2) p) (.slice a' l h)
  | lc {sc scope tg it e it' e' t cs cs' p} (own : List (Str × Nat)) (hb : blkC N sc scope own = true) (ht : TrT N (relS scope sc) scope tg t) (hi : TrI g N sc tg it it') (he : TrE g N (relS scope sc) e e') (hc : TrEs g N (relS scope sc) cs cs') (h1 : cs.length ≤ 1) (hin : (slotsOf t).all (fun i => decide (i ∈ own.map (·.2))) = true) : TrE g N sc (.ListComp e [⟨tg, it, cs, 0⟩] scope p) (.lc t (own.map (·.2)) it' e' cs')
  | own {sc e e'} (h : TrE g N sc e e') (hf : isFr e' = true) (hb : isFrE e = true) : TrE g N sc e (.own e')
  | repF {sc a n a' n' p} (ha : TrE g N sc a a') (hf : isFr a' = true) (hn : TrE g N sc n n') : TrE g N sc (.BinOp a .Mult n p) (.repF a' n')
  | catF {sc a b a' b' p} (ha : TrE g N sc a a') (hb : TrE g N sc b b') (hf : isFr b' = true) : TrE g N sc (.BinOp a .Add b p) (.catF a' b')
  | lstA {sc es xs p} (h : TrEs g N sc es xs) (hl : es.length ≤ 1000) : TrE g N sc (.List es p) (.lstA xs)
  | rev {sc a a' p p1 p2 p3 j} (ha : TrE g N sc a a') : TrE g N sc (.Subscript a (.Slice none none (some (.UnaryOp .USub (.Constant (.int 1) j p1) p2)) p3) p) (.rev a')
  | mk {sc params body scope p k t j L} (hl : g.lm k = some L) (ho : L.own = j) (e1 : L.params = params) (e2 : L.body = body) (e3 : L.scope = scope) (hs : LamX.lamSB sc scope = true) (hd : params.defaults = [] ∧ params.kw_defaults = []) : TrE g N sc (.Lambda params body scope p) (.mk k t j)
  | callv {sc x p pos i} (h : N[i]? = some x) (v : Vis sc x) (d1 : (x == ("__debug__" : Str)) = false) (d2 : (x == ("__classdict__" : Str)) = false) : TrE g N sc (.Call (.Name x p) [] [] pos) (.callv (.v i))
  | exv {sc a a' p} (ha : TrE g N sc a a') (hn : isNm a = true) : TrE g N sc (.Attribute a "value" p) (.exv a')
  | isC {sc p p2 x k a a' pos} (hl : ("isinstance" : Str) ∈ g.bl) (h : Gb sc "isinstance") (hx : Gb sc x) (hk : g.cn x = some k) (d1 : (x == ("__debug__" : Str)) = false) (ha : TrE g N sc a a') : TrE g N sc (.Call (.Name "isinstance" p) [a, .Name x p2] [] pos) (.isC a' (g.sb k))
  | isV {sc p p2 a a' pos} (hl : ("isinstance" : Str) ∈ g.bl) (h : Gb sc "isinstance") (hl2 : ("ValueError" : Str) ∈ g.bl) (h2 : Gb sc "ValueError") (ha : TrE g N sc a a') : TrE g N sc (.Call (.Name "isinstance" p) [a, .Name "ValueError" p2] [] pos) (.isV a')
inductive TrI (g : Stat) (N : List Str) : Scope → Expr → Expr → Itr → Prop
  | e {sc tg it it'} (h : TrE g N sc it it') : TrI g N sc tg it (.e it')
  | rng {sc tg e es xs p p2} (hl : ("range" : Str) ∈ g.bl) (h : Gb sc "range") (hs : TrEs g N sc (e :: es) xs) (h3 : es.length ≤ 2) : TrI g N sc tg (.Call (.Name "range" p) (e :: es) [] p2) (.rng xs)
  | zip {sc es kk tp a b a' b' p p2} (hl : ("zip" : Str) ∈ g.bl) (h : Gb sc "zip") (ha : TrE g N sc a a') (hb : TrE g N sc b b') : TrI g N sc (.Tuple es kk tp) (.Call (.Name "zip" p) [a, b] [] p2) (.zip a' b')
  | enum {sc es kk tp a a' p p2} (hl : ("enumerate" : Str) ∈ g.bl) (h : Gb sc "enumerate") (ha : TrE g N sc a a') : TrI g N sc (.Tuple es kk tp) (.Call (.Name "enumerate" p) [a] [] p2) (.enum a')
inductive TrEs (g : Stat) (N : List Str) : Scope → List Expr → Exs → Prop
  | nil {sc} : TrEs g N sc [] .nil
  | cons {sc e es x xs} (h : TrE g N sc e x) (r : TrEs g N sc es xs) : TrEs g N sc (e :: es) (.cons x xs)
inductive TrKs (g : Stat) (N : List Str) : Scope → List Keyword → List Str → Exs → Prop
  | nil {sc} : TrKs g N sc [] [] .nil
  | cons {sc e x p ks ns xs y} (h : TrE g N sc e x) (r : TrKs g N sc ks ns xs) : TrKs g N sc (⟨some y, e, p⟩ :: ks) (y :: ns) (.cons x xs)
inductive TrO (g : Stat) (N : List Str) : Scope → Option Expr → Exs → Prop
  | non {sc} : TrO g N sc none .nil
  | some {sc e x} (h : TrE g N sc e x) : TrO g N sc (some e) (.cons x .nil)
end
end Pv
set_option Elab.async false
set_option maxRecDepth 100000
set_option linter.unusedVariables false
/-! Pv6: an expression's meaning is what the machine does. -/
namespace Pv
open PySem PySem.Spec PyProof.Rows L2

section
variable {g : Stat} {N : List Str} {sc : Scope}
theorem TrE.star {e : Expr} {x : Ex} (h : TrE g N sc e x) (es : List Expr) (env : Env) : starEach (e :: es) env = (false, eval e env) :: starEach es env := by
  cases h with
  | own h' hf => cases h' <;> first | rfl | (cases hf)
  | _ => rfl
theorem TrEs.stars : ∀ {es : List Expr} {xs : Exs}, TrEs g N sc es xs → ∀ (pos : Pos) (env : Env), (backTo pos (starEach es env)).any (·.1) = false
  | [], _, _, _, _ => rfl
  | e :: es, _, h, pos, env => by
    cases h with
    | cons h r =>
      rw [h.star]
      exact r.stars pos env
theorem TrE.plainIx {e : Expr} {x : Ex} (h : TrE g N sc e x) : PlainIx e := by
  intro o i
  cases h with
  | own h' hf => cases h' <;> first | rfl | (cases hf)
  | _ => rfl
theorem TrE.noSl {e : Expr} {x : Ex} (h : TrE g N sc e x) : NoSl e := by
  intro o i
  cases h with
  | own h' hf => cases h' <;> first | rfl | (cases hf)
  | _ => rfl
theorem TrE.folded {e : Expr} {x : Ex} (h : TrE g N sc e x) (env : Env) (v : Value) : foldedSetIterable e env v = pure v := by
  cases h with
  | own h' hf => cases h' <;> first | rfl | (cases hf)
  | _ => rfl
end

section
variable (g : Stat) (N : List Str) (sc : Scope) (d : Nat) (c : Cfg)
def SE (e : Expr) (i : Ex) : Prop := ∀ (X : Cx) (zt : Zt), XOk g N sc d c X zt → ∀ (W : WX), Takes X W → ∀ (σd : En) (σ : SL) (H : Hp) (m av : List Addr) (S : Sto) (Q : VK) (E : XK), (∀ cls d H', E cls d H' → W cls d σ H') → EnR (zc X zt) H m av σd σ → Rel (zc X zt) zt.ou m av H S → PostA (zc X zt) zt.ou m av H (ev c i σd S) Q E → we X e σ H Q
def tst (i : Ex) (σ : En) (S : Sto) : R Bool := (ev c i σ S).bind fun x S1 => R.opt S1 ((rd S1 x).bind truthD)
def ST (e : Expr) (i : Ex) : Prop := ∀ (X : Cx) (zt : Zt), XOk g N sc d c X zt → ∀ (W : WX), Takes X W → ∀ (σd : En) (σ : SL) (H : Hp) (m av : List Addr) (S : Sto) (Q : Bool → Hp → Prop) (E : XK), (∀ cls d H', E cls d H' → W cls d σ H') → EnR (zc X zt) H m av σd σ → Rel (zc X zt) zt.ou m av H S → PostB (zc X zt) zt.ou m av H (tst c i σd S) Q E → wt X e σ H Q
def SW (e : Expr) (i : Ex) : Prop := ∀ (X : Cx) (zt : Zt), XOk g N sc d c X zt → ∀ (W : WX), Takes X W → ∀ (σd : En) (σ : SL) (H : Hp) (m av : List Addr) (S : Sto) (Q : Bool → Hp → Prop) (E : XK), (∀ cls d H', E cls d H' → W cls d σ H') → EnR (zc X zt) H m av σd σ → Rel (zc X zt) zt.ou m av H S → PostB (zc X zt) zt.ou m av H (tst c i σd S) Q E → ww X e σ H Q
def SA (es : List Expr) (is : Exs) : Prop := ∀ (X : Cx) (zt : Zt), XOk g N sc d c X zt → ∀ (W : WX), Takes X W → ∀ (σd : En) (σ : SL) (H : Hp) (m av : List Addr) (S : Sto) (Q : List V → Hp → Prop) (E : XK), (∀ cls d H', E cls d H' → W cls d σ H') → EnR (zc X zt) H m av σd σ → Rel (zc X zt) zt.ou m av H S → PostL (zc X zt) zt.ou m av H (evs c is σd S) Q E → wa X es σ H Q
def isBool : Expr → Bool
  | .BoolOp _ _ _ => true
  | _ => false
structure Snd (e : Expr) (i : Ex) : Prop where
  v : SE g N sc d c e i
  t : ST g N sc d c e i
  w : isBool e = true → SW g N sc d c e i
end
section
variable {g : Stat} {N : List Str} {sc : Scope} {d : Nat} {c : Cfg}
theorem ST.of_SE {e : Expr} {i : Ex} (h : SE g N sc d c e i) (he : ∀ (env : Env) whole, isTrue e env whole = (do let v ← whole; standAt e.pos; holding [v] (truthy v))) : ST g N sc d c e i := by
  intro X zt ok W tk σd σ H m av S Q EX hW En R P
  refine wt_of (pt_truth pe_we (he X.env)) ?_
  refine h X zt ok W tk σd σ H m av S _ _ hW En R (P.into fun x S1 e1 ms H1 v E1 R1 r1 => ?_)
  have P1 := P.step e1 E1 R1
  obtain ⟨b, e2, P2⟩ := P1.some
  cases e3 : rd S1 x with
  | none => rw [e3] at e2; cases e2
  | some dt =>
    rw [e3] at e2
    exact ⟨b, (rd_rep R1 r1 e3).tru e2, P2.now R1 rfl⟩
theorem Snd.mk' {e : Expr} {i : Ex} (h : SE g N sc d c e i) (he : ∀ (env : Env) whole, isTrue e env whole = (do let v ← whole; standAt e.pos; holding [v] (truthy v))) (hb : isBool e = false) : Snd g N sc d c e i :=
  ⟨h, .of_SE h he, fun z => by rw [hb] at z; cases z⟩
theorem units64 {X : Cx} {zt : Zt} (ok : XOk g N sc d c X zt) : X.A.units + 64 < cLine := ok.room.units
theorem units200 {X : Cx} {zt : Zt} (ok : XOk g N sc d c X zt) : X.A.units + 200 < cLine := by have := ok.room.un; omega

theorem se_var {x : Str} {p : Pos} {i : Nat} (h : N[i]? = some x) (v : Vis sc x) (d1 : (x == ("__debug__" : Str)) = false) (d2 : (x == ("__classdict__" : Str)) = false) : SE g N sc d c (.Name x p) (.v i) := by
  intro X zt ok W tk σd σ H m av S Q EX hW En R P
  simp only [ev] at P
  obtain ⟨a, e, P⟩ := P.some
  cases e2 : σd[i]? with
  | none => rw [e2] at e; cases e
  | some o =>
    rw [e2] at e
    simp only [Option.join_some] at e
    subst e
    obtain ⟨w, e3, r⟩ := En.get e2
    exact we_of (pe_var (i := i) (by rw [ok.N_]; exact h) (by rw [ok.sc_]; exact v) d1 d2) ⟨w, e3, P.now R r⟩
theorem se_const {e : Expr} {x : PyData} {v : V} (h : ∀ X : Cx, PE X e (tC v)) (r : ∀ K H av, Rep K H av x v) : SE g N sc d c e (.k x) := by
  intro X zt ok W tk σd σ H m av S Q EX hW En R P
  exact we_of (h X) (P.now R (r _ _ _))
theorem se_glob {x : Str} {p : Pos} {dt : PyData} (h : Gb sc x) (hg : g.G x = some dt) (d1 : (x == ("__debug__" : Str)) = false) : SE g N sc d c (.Name x p) (.k dt) := by
  intro X zt ok W tk σd σ H m av S Q EX hW En R P
  obtain ⟨u, v, e1, r1, r2⟩ := ok.glob x dt hg
  exact we_of (pe_glob (ok.gl h) e1 r1 d1) (P.now R (r2 _ _))
theorem se_bin {a b : Expr} {a' b' : Ex} {p : Pos} (o : BOp) (ha : SE g N sc d c a a') (hb : SE g N sc d c b b') : SE g N sc d c (.BinOp a (opOf o) b p) (.bin o a' b') := by
  intro X zt ok W tk σd σ H m av S Q EX hW En R P
  simp only [ev] at P
  refine we_of (pe_op op_wop pe_we pe_we) ?_
  refine ha X zt ok W tk σd σ H m av S _ _ hW En R (P.into fun x S1 e1 ms H1 v E1 R1 r1 => ?_)
  have P1 := P.step e1 E1 R1
  refine hb X zt ok W tk σd σ H1 _ _ S1 _ _ hW (En.evo R E1) R1 (P1.into fun y S2 e2 ns H2 u E2 R2 r2 => ?_)
  have P2 := P1.step e2 E2 R2
  obtain ⟨z, e3, P3⟩ := P2.some
  cases q1 : rd S2 x with
  | none => rw [q1] at e3; cases e3
  | some x' =>
    rw [q1, Option.bind_some] at e3
    cases q2 : rd S2 y with
    | none => rw [q2] at e3; cases e3
    | some y' =>
      rw [q2, Option.bind_some] at e3
      cases e4 : binD o x' y' with
      | none => rw [e4] at e3; cases e3
      | some z' =>
        rw [e4] at e3
        simp only [Option.map_some, Option.some.injEq] at e3
        subst e3
        exact bin_ok e4 (rd_rep R2 (RepA.evo R1 E2 r1) q1) (rd_rep R2 r2 q2) ⟨fun w hw => P3.now R2 hw, fun ds vs q ez hq t => by
          subst ez
          obtain ⟨E3, R3, nq⟩ := R2.laid (o := .tup vs) hq
          refine P3.later (ms := []) E3 (by rw [List.append_nil, List.append_nil]; exact R3) ?_
          have t' := RepAll.evo E3 R2.sub t
          rw [List.append_nil] at t'
          rw [List.append_nil, List.append_nil]
          exact Rep.tupH (.inl upd_same) nq t'⟩
theorem se_neg {a : Expr} {a' : Ex} {p : Pos} (ha : SE g N sc d c a a') : SE g N sc d c (.UnaryOp .USub a p) (.neg a') := by
  intro X zt ok W tk σd σ H m av S Q EX hW En R P
  simp only [ev] at P
  refine we_of (pe_un un_neg pe_we) ?_
  refine ha X zt ok W tk σd σ H m av S _ _ hW En R (P.into fun x S1 e1 ms H1 v E1 R1 r1 => ?_)
  have P1 := P.step e1 E1 R1
  split at P1
  · cases r1
    exact ⟨_, rfl, P1.now R1 (Rep.int _)⟩
  · exact P1.elim
theorem snd_not {a : Expr} {a' : Ex} {p : Pos} (ha : Snd g N sc d c a a') : Snd g N sc d c (.UnaryOp .Not a p) (.not a') := by
  refine ⟨?_, ?_, fun z => nomatch z⟩
  · intro X zt ok W tk σd σ H m av S Q EX hW En R P
    simp only [ev] at P
    refine we_of (pe_notT pe_we) ?_
    refine ha.v X zt ok W tk σd σ H m av S _ _ hW En R (P.into fun x S1 e1 ms H1 v E1 R1 r1 => ?_)
    have P1 := P.step e1 E1 R1
    obtain ⟨z, e2, P2⟩ := P1.some
    cases e3 : rd S1 x with
    | none => rw [e3] at e2; cases e2
    | some dt =>
      rw [e3] at e2
      simp only [Option.bind_some] at e2
      cases e4 : truthD dt with
      | none => rw [e4] at e2; cases e2
      | some b =>
        rw [e4] at e2
        simp only [Option.map_some, Option.some.injEq] at e2
        subst e2
        exact ⟨b, (rd_rep R1 r1 e3).tru e4, P2.now R1 (Rep.bool _)⟩
  · intro X zt ok W tk σd σ H m av S Q EX hW En R P
    simp only [tst, ev] at P
    cases e1 : ev c a' σd S with
    | ex _ _ _ =>
      rw [e1] at P
      refine wt_of (pt_not pt_wt) ?_
      refine ha.t X zt ok W tk σd σ H m av S _ _ hW En R ?_
      simp only [tst, e1, Pv.R.bind_ex] at P ⊢
      exact P
    | no => rw [e1] at P; exact P.elim
    | ok x S1 =>
      rw [e1] at P
      simp only [Pv.R.bind_ok] at P
      cases e3 : (rd S1 x).bind truthD with
      | none => rw [e3] at P; exact P.elim
      | some b =>
        rw [e3] at P
        simp only [Option.map_some, Pv.R.opt_some, Pv.R.bind_ok, rd, Option.bind_some, truthD] at P
        refine wt_of (pt_not pt_wt) ?_
        refine ha.t X zt ok W tk σd σ H m av S _ _ hW En R ?_
        have e5 : tst c a' σd S = .ok b S1 := by simp only [tst, e1, Pv.R.bind_ok, e3, Pv.R.opt_some]
        exact post_ok e5 fun ms H1 v E1 R1 r1 => by
          have r1' : v = b := r1
          rw [r1']
          exact P.later E1 R1 rfl
theorem isNonA_ok {Z : Kc} {H : Hp} {m av : List Addr} {x : A} {v : V} {b : Bool} (e : isNonA x = some b) (r : RepA Z H m av x v) : decide (v = V.non) = b := by
  cases x with
  | d x =>
    have r' : Rep Z.K H av x v := r
    cases r' <;> (simp only [isNonA, Option.some.injEq] at e; subst e; simp)
  | ref i => obtain ⟨a, _, rfl⟩ := r; simp only [isNonA, Option.some.injEq] at e; subst e; simp
  | tup as => obtain ⟨a, _, rfl, _⟩ := r; simp only [isNonA, Option.some.injEq] at e; subst e; simp
  | exc c p => obtain ⟨a, _, _, _, _, rfl, _⟩ := r; simp only [isNonA, Option.some.injEq] at e; subst e; simp
  | lam k => obtain ⟨a, _, _, rfl, _⟩ := r; simp only [isNonA, Option.some.injEq] at e; subst e; simp
theorem cmpA_ok {X : Cx} {zt : Zt} {H : Hp} {m av : List Addr} {S : Sto} {Q : VK} (hu : X.A.units + 64 < cLine) {o : COp} {x y : A} {v u : V} {b : Bool} (e : cmpA S o x y = some b) (R : Rel (zc X zt) zt.ou m av H S) (rv : RepA (zc X zt) H m av x v) (ru : RepA (zc X zt) H m av y u) (q : Q (.bl b) H) : wop X (compareOp (copOf o)) v u H Q := by
  have gen : ((rd S x).bind fun x => (rd S y).bind fun y => cmpD o x y) = some b → wop X (compareOp (copOf o)) v u H Q := fun e => by
    cases e4 : rd S x with
    | none => rw [e4] at e; cases e
    | some x' =>
      rw [e4, Option.bind_some] at e
      cases e5 : rd S y with
      | none => rw [e5] at e; cases e
      | some y' =>
        rw [e5, Option.bind_some] at e
        exact cmp_ok hu e (rd_rep R rv e4) (rd_rep R ru e5) q
  unfold cmpA at e
  split at e
  · have hu' : u = V.non := by
      have r' : Rep X.K H av .none u := ru
      cases r'; rfl
    subst hu'
    exact wop_of op_isN ⟨rfl, by rw [isNonA_ok e rv]; exact q⟩
  · have hu' : u = V.non := by
      have r' : Rep X.K H av .none u := ru
      cases r'; rfl
    subst hu'
    cases w : isNonA x with
    | none => rw [w] at e; cases e
    | some k =>
      rw [w] at e
      simp only [Option.map_some, Option.some.injEq] at e
      subst e
      exact wop_of op_notN ⟨rfl, by rw [isNonA_ok w rv]; exact q⟩
  · exact gen e
theorem snd_cmp {a b : Expr} {a' b' : Ex} {p : Pos} (o : COp) (ha : SE g N sc d c a a') (hb : SE g N sc d c b b') : Snd g N sc d c (.Compare a [copOf o] [b] p) (.cmp o a' b') := by
  have hm : ∀ b : Expr, behindInMarks (copOf o) b = false := fun b => by cases o <;> exact nomark b
  have key : ∀ (X : Cx) (zt : Zt), XOk g N sc d c X zt → ∀ (W : WX), Takes X W → ∀ (σd : En) (σ : SL) (H : Hp) (m av : List Addr) (S : Sto) (Q : VK) (E : XK), (∀ cls d H', E cls d H' → W cls d σ H') → EnR (zc X zt) H m av σd σ → Rel (zc X zt) zt.ou m av H S →
      PostA (zc X zt) zt.ou m av H (ev c (.cmp o a' b') σd S) Q E → tOp (wop X (compareOp (copOf o))) (we X a) (we X b) σ H Q := by
    intro X zt ok W tk σd σ H m av S Q EX hW En R P
    simp only [ev] at P
    refine ha X zt ok W tk σd σ H m av S _ _ hW En R (P.into fun x S1 e1 ms H1 v E1 R1 r1 => ?_)
    have P1 := P.step e1 E1 R1
    refine hb X zt ok W tk σd σ H1 _ _ S1 _ _ hW (En.evo R E1) R1 (P1.into fun y S2 e2 ns H2 u E2 R2 r2 => ?_)
    have P2 := P1.step e2 E2 R2
    obtain ⟨z, e3, P3⟩ := P2.some
    cases e6 : cmpA S2 o x y with
    | none => rw [e6] at e3; cases e3
    | some k =>
      rw [e6] at e3
      simp only [Option.map_some, Option.some.injEq] at e3
      subst e3
      exact cmpA_ok (units64 ok) e6 R2 (RepA.evo R1 E2 r1) r2 (P3.now R2 (Rep.bool _))
  refine ⟨fun X zt ok W tk σd σ H m av S Q EX hW En R P => we_of (pe_cmpR op_wop pe_we pe_we (hm b)) (key X zt ok W tk σd σ H m av S Q _ hW En R P), fun X zt ok W tk σd σ H m av S Q EX hW En R P => ?_, fun z => nomatch z⟩
  refine wt_of (pt_cmpR op_wop pe_we pe_we (hm b)) (key X zt ok W tk σd σ H m av S _ _ hW En R ?_)
  simp only [tst] at P
  refine P.into fun x S1 e1 ms H1 v E1 R1 r1 => ?_
  have P1 := P.step e1 E1 R1
  obtain ⟨k, e2, P2⟩ := P1.some
  have hx : ∃ b, x = .d (.bool b) := by
    simp only [ev] at e1
    cases q1 : ev c a' σd S with
    | ex _ _ _ => rw [q1] at e1; cases e1
    | no => rw [q1] at e1; cases e1
    | ok x1 T1 =>
      rw [q1, Pv.R.bind_ok] at e1
      cases q2 : ev c b' σd T1 with
      | ex _ _ _ => rw [q2] at e1; cases e1
      | no => rw [q2] at e1; cases e1
      | ok x2 T2 =>
        rw [q2, Pv.R.bind_ok] at e1
        cases q3 : cmpA T2 o x1 x2 with
        | none => rw [q3] at e1; cases e1
        | some z =>
          rw [q3] at e1
          simp only [Option.map_some, Pv.R.opt_some, Pv.R.ok.injEq] at e1
          exact ⟨z, e1.1.symm⟩
  obtain ⟨b, rfl⟩ := hx
  simp only [rd, Option.bind_some, truthD, Option.some.injEq] at e2
  subst e2
  cases r1
  exact ⟨_, rfl, P2.now R1 rfl⟩
theorem se_one {op : BoolOp} {a : Expr} {a' : Ex} {p : Pos} (ha : Snd g N sc d c a a') : Snd g N sc d c (.BoolOp op [a] p) a' := by
  have w : SW g N sc d c (.BoolOp op [a] p) a' := fun X zt ok W tk σd σ H m av S Q EX hW En R P => by
    cases op with
    | And => exact ww_of (pw_and1 pt_wt) (ha.t X zt ok W tk σd σ H m av S Q _ hW En R P)
    | Or => exact ww_of (pw_or1 pt_wt) (ha.t X zt ok W tk σd σ H m av S Q _ hW En R P)
  exact ⟨fun X zt ok W tk σd σ H m av S Q EX hW En R P => we_of (pe_one pe_we) (ha.v X zt ok W tk σd σ H m av S Q _ hW En R P), fun X zt ok W tk σd σ H m av S Q EX hW En R P => wt_of (PW.pt pw_ww) (w X zt ok W tk σd σ H m av S Q _ hW En R P), fun _ => w⟩
/-- what a test of the first of two says -/
theorem tst_cases {a' : Ex} {σd : En} {S : Sto} {β γ : Type} {Z : Kc} {ou : Option (En × SL)} {rep : Hp → List Addr → List Addr → γ → β → Prop} {m av : List Addr} {H : Hp} {Q : β → Hp → Prop} {E : XK} {f : A → Sto → Bool → Pv.R γ}
    (P : Post Z ou rep m av H ((ev c a' σd S).bind fun x S1 => match (rd S1 x).bind truthD with | some true => f x S1 true | some false => f x S1 false | none => .no) Q E) :
    ∀ (x : A) (S1 : Sto), ev c a' σd S = .ok x S1 → ∃ b, (rd S1 x).bind truthD = some b ∧ ∀ ms H1, Evo m H ms H1 → Rel Z ou (m ++ ms) (av ++ ms) H1 S1 → Post Z ou rep (m ++ ms) (av ++ ms) H1 (f x S1 b) Q E := by
  intro x S1 e1
  cases e2 : (rd S1 x).bind truthD with
  | none => rw [e1, Pv.R.bind_ok] at P; simp only [e2] at P; exact P.elim
  | some b =>
    refine ⟨b, rfl, fun ms H1 E1 R1 => ?_⟩
    have P1 := P.step e1 E1 R1
    simp only [e2] at P1
    cases b <;> exact P1
/-- the test ahead: its exceptions are the whole's -/
theorem tst_into {a' : Ex} {σd : En} {S : Sto} {β γ : Type} {Z : Kc} {ou : Option (En × SL)} {rep : Hp → List Addr → List Addr → γ → β → Prop} {m av : List Addr} {H : Hp} {Q : β → Hp → Prop} {Q' : Bool → Hp → Prop} {E : XK} {f : A → Sto → Bool → Pv.R γ}
    (P : Post Z ou rep m av H ((ev c a' σd S).bind fun x S1 => match (rd S1 x).bind truthD with | some true => f x S1 true | some false => f x S1 false | none => .no) Q E)
    (k : ∀ x S1 b, ev c a' σd S = .ok x S1 → (rd S1 x).bind truthD = some b → (∀ ms H1, Evo m H ms H1 → Rel Z ou (m ++ ms) (av ++ ms) H1 S1 → Post Z ou rep (m ++ ms) (av ++ ms) H1 (f x S1 b) Q E) → ∀ ms H1 v, Evo m H ms H1 → Rel Z ou (m ++ ms) (av ++ ms) H1 S1 → v = b → Q' v H1) :
    Post Z ou (fun _ _ _ (b k : Bool) => k = b) m av H (tst c a' σd S) Q' E := by
  have go := tst_cases P
  unfold tst
  cases q : ev c a' σd S with
  | no => rw [q] at P; exact P.elim
  | ex k p S1 => rw [q] at P; exact P
  | ok x S1 =>
    obtain ⟨b, e2, go⟩ := go x S1 q
    rw [Pv.R.bind_ok, e2, Pv.R.opt_some]
    exact fun ms H1 v E1 R1 r1 => k x S1 b q e2 go ms H1 v E1 R1 r1
theorem tst_eq {a' : Ex} {σd : En} {S S1 : Sto} {x : A} {b : Bool} (e1 : ev c a' σd S = .ok x S1) (e2 : (rd S1 x).bind truthD = some b) : tst c a' σd S = .ok b S1 := by
  simp only [tst, e1, Pv.R.bind_ok, e2, Pv.R.opt_some]
theorem tru_of {Z : Kc} {ou : Option (En × SL)} {m av : List Addr} {H : Hp} {S : Sto} (R : Rel Z ou m av H S) {x : A} {v : V} {b : Bool} (r : RepA Z H m av x v) (e : (rd S x).bind truthD = some b) : TruV Z.K v H b := by
  cases e3 : rd S x with
  | none => rw [e3] at e; cases e
  | some dt => rw [e3] at e; exact (rd_rep R r e3).tru e
theorem snd_and {a b : Expr} {r : List Expr} {a' r' : Ex} {p : Pos} (ha : Snd g N sc d c a a') (hr : Snd g N sc d c (.BoolOp .And (b :: r) p) r') : Snd g N sc d c (.BoolOp .And (a :: b :: r) p) (.and a' r') := by
  have w : SW g N sc d c (.BoolOp .And (a :: b :: r) p) (.and a' r') := fun X zt ok W tk σd σ H m av S Q EX hW En R P => by
    simp only [tst, ev] at P
    have P' : Post (zc X zt) zt.ou (fun _ _ _ (b k : Bool) => k = b) m av H ((ev c a' σd S).bind fun x S1 => match (rd S1 x).bind truthD with
      | some true => tst c r' σd S1 | some false => .ok false S1 | none => .no) Q EX := by
      cases q : ev c a' σd S with
      | ex _ _ _ => rw [q] at P; exact P
      | no => rw [q] at P; exact P.elim
      | ok x S1 =>
        rw [q, Pv.R.bind_ok] at P
        rw [Pv.R.bind_ok]
        cases q2 : (rd S1 x).bind truthD with
        | none => rw [q2] at P; exact P.elim
        | some k =>
          cases k with
          | true => rw [q2] at P; exact P
          | false => rw [q2] at P; simp only [Pv.R.bind_ok, q2, Pv.R.opt_some] at P; exact P
    refine ww_of (pw_and pt_wt (pw_ww)) ?_
    refine ha.t X zt ok W tk σd σ H m av S _ _ hW En R (tst_into (f := fun x S1 k => match k with | true => tst c r' σd S1 | false => .ok false S1) P' fun x S1 k e1 e2 go ms H1 v E1 R1 r1 => ?_)
    have r1' : v = k := r1
    subst r1'
    have P1 := go ms H1 E1 R1
    cases v with
    | true => exact hr.w rfl X zt ok W tk σd σ H1 _ _ S1 Q _ hW (En.evo R E1) R1 P1
    | false => exact P1.now R1 rfl
  refine ⟨fun X zt ok W tk σd σ H m av S Q EX hW En R P => ?_, fun X zt ok W tk σd σ H m av S Q EX hW En R P => wt_of (PW.pt pw_ww) (w X zt ok W tk σd σ H m av S Q _ hW En R P), fun _ => w⟩
  simp only [ev] at P
  refine we_of (pe_andT pe_we pe_we) ?_
  refine ha.v X zt ok W tk σd σ H m av S _ _ hW En R (P.into fun x S1 e1 ms H1 v E1 R1 r1 => ?_)
  obtain ⟨k, e2, go⟩ := tst_cases (f := fun x S1 k => match k with | true => ev c r' σd S1 | false => .ok x S1) P x S1 e1
  refine ⟨k, tru_of R1 r1 e2, ?_⟩
  have P1 := go ms H1 E1 R1
  cases k with
  | true => exact hr.v X zt ok W tk σd σ H1 _ _ S1 Q _ hW (En.evo R E1) R1 P1
  | false => exact P1.now R1 r1
theorem snd_or {a b : Expr} {r : List Expr} {a' r' : Ex} {p : Pos} (ha : Snd g N sc d c a a') (hr : Snd g N sc d c (.BoolOp .Or (b :: r) p) r') : Snd g N sc d c (.BoolOp .Or (a :: b :: r) p) (.or a' r') := by
  have w : SW g N sc d c (.BoolOp .Or (a :: b :: r) p) (.or a' r') := fun X zt ok W tk σd σ H m av S Q EX hW En R P => by
    simp only [tst, ev] at P
    have P' : Post (zc X zt) zt.ou (fun _ _ _ (b k : Bool) => k = b) m av H ((ev c a' σd S).bind fun x S1 => match (rd S1 x).bind truthD with
      | some true => .ok true S1 | some false => tst c r' σd S1 | none => .no) Q EX := by
      cases q : ev c a' σd S with
      | ex _ _ _ => rw [q] at P; exact P
      | no => rw [q] at P; exact P.elim
      | ok x S1 =>
        rw [q, Pv.R.bind_ok] at P
        rw [Pv.R.bind_ok]
        cases q2 : (rd S1 x).bind truthD with
        | none => rw [q2] at P; exact P.elim
        | some k =>
          cases k with
          | false => rw [q2] at P; exact P
          | true => rw [q2] at P; simp only [Pv.R.bind_ok, q2, Pv.R.opt_some] at P; exact P
    refine ww_of (pw_or pt_wt (pw_ww)) ?_
    refine ha.t X zt ok W tk σd σ H m av S _ _ hW En R (tst_into (f := fun x S1 k => match k with | true => .ok true S1 | false => tst c r' σd S1) P' fun x S1 k e1 e2 go ms H1 v E1 R1 r1 => ?_)
    have r1' : v = k := r1
    subst r1'
    have P1 := go ms H1 E1 R1
    cases v with
    | true => exact P1.now R1 rfl
    | false => exact hr.w rfl X zt ok W tk σd σ H1 _ _ S1 Q _ hW (En.evo R E1) R1 P1
  refine ⟨fun X zt ok W tk σd σ H m av S Q EX hW En R P => ?_, fun X zt ok W tk σd σ H m av S Q EX hW En R P => wt_of (PW.pt pw_ww) (w X zt ok W tk σd σ H m av S Q _ hW En R P), fun _ => w⟩
  simp only [ev] at P
  refine we_of (pe_orT pe_we pe_we) ?_
  refine ha.v X zt ok W tk σd σ H m av S _ _ hW En R (P.into fun x S1 e1 ms H1 v E1 R1 r1 => ?_)
  obtain ⟨k, e2, go⟩ := tst_cases (f := fun x S1 k => match k with | true => .ok x S1 | false => ev c r' σd S1) P x S1 e1
  refine ⟨k, tru_of R1 r1 e2, ?_⟩
  have P1 := go ms H1 E1 R1
  cases k with
  | true => exact P1.now R1 r1
  | false => exact hr.v X zt ok W tk σd σ H1 _ _ S1 Q _ hW (En.evo R E1) R1 P1
theorem se_ite {t a b : Expr} {t' a' b' : Ex} {p : Pos} (ht : ST g N sc d c t t') (ha : SE g N sc d c a a') (hb : SE g N sc d c b b') : SE g N sc d c (.IfExp t a b p) (.ite t' a' b') := by
  intro X zt ok W tk σd σ H m av S Q EX hW En R P
  simp only [ev] at P
  refine we_of (pe_ifExp pt_wt pe_we pe_we) ?_
  refine ht X zt ok W tk σd σ H m av S _ _ hW En R (tst_into (f := fun x S1 k => match k with | true => ev c a' σd S1 | false => ev c b' σd S1) P fun x S1 k e1 e2 go ms H1 v E1 R1 r1 => ?_)
  have r1' : v = k := r1
  subst r1'
  have P1 := go ms H1 E1 R1
  cases v with
  | true => exact ha X zt ok W tk σd σ H1 _ _ S1 Q _ hW (En.evo R E1) R1 P1
  | false => exact hb X zt ok W tk σd σ H1 _ _ S1 Q _ hW (En.evo R E1) R1 P1
end
end Pv
set_option Elab.async false
set_option maxRecDepth 100000
set_option linter.unusedVariables false
/-! Pv7: displays, calls, items, slices. -/
namespace Pv
open PySem PySem.Spec PyProof.Rows L2
def Exs.len : Exs → Nat
  | .nil => 0
  | .cons _ r => r.len + 1
theorem evs_len {c : Cfg} : ∀ (xs : Exs) {σ : En} {S S1 : Sto} {as : List A}, evs c xs σ S = .ok as S1 → as.length = xs.len
  | .nil, _, _, _, _, h => by simp only [evs, Pv.R.ok.injEq] at h; rw [← h.1]; rfl
  | .cons a r, σ, S, S1, as, h => by
    simp only [evs] at h
    cases q : ev c a σ S with
    | ex _ _ _ => rw [q] at h; cases h
    | no => rw [q] at h; cases h
    | ok x T =>
      rw [q, Pv.R.bind_ok] at h
      cases q2 : evs c r σ T with
      | ex _ _ _ => rw [q2] at h; cases h
      | no => rw [q2] at h; cases h
      | ok ys T2 =>
        rw [q2, Pv.R.bind_ok] at h
        simp only [Pv.R.ok.injEq] at h
        rw [← h.1]
        simp [Exs.len, evs_len r q2]
theorem TrEs.len {g : Stat} {N : List Str} {sc : Scope} : ∀ {es : List Expr} {xs : Exs}, TrEs g N sc es xs → xs.len = es.length
  | [], _, h => by cases h; rfl
  | e :: es, _, h => by
    cases h with
    | cons h r => simp [Exs.len, TrEs.len r]
section
variable {g : Stat} {N : List Str} {sc : Scope} {d : Nat} {c : Cfg}
theorem sa_nil : SA g N sc d c [] .nil := by
  intro X zt ok W tk σd σ H m av S Q EX hW En R P
  exact wa_of pa_nil (P.now R .nil)
theorem sa_cons {e : Expr} {es : List Expr} {x : Ex} {xs : Exs} (he : SE g N sc d c e x) (hr : SA g N sc d c es xs) (hs : ∀ env, starEach (e :: es) env = (false, eval e env) :: starEach es env) : SA g N sc d c (e :: es) (.cons x xs) := by
  intro X zt ok W tk σd σ H m av S Q EX hW En R P
  simp only [evs] at P
  refine wa_of (pa_cons pe_we pa_wa (hs _)) ?_
  refine he X zt ok W tk σd σ H m av S _ _ hW En R (P.into fun a S1 e1 ms H1 v E1 R1 r1 => ?_)
  have P1 := P.step e1 E1 R1
  refine hr X zt ok W tk σd σ H1 _ _ S1 _ _ hW (En.evo R E1) R1 (P1.into fun as S2 e2 ns H2 vs E2 R2 r2 => ?_)
  exact (P1.step e2 E2 R2).now R2 (.cons (RepA.evo R1 E2 r1) r2)
theorem small (n : Nat) (h : n ≤ 1000) : n ≤ sizeLine := by rw [sizeLine_eq]; omega
theorem RepAs.toL {Z : Kc} {H : Hp} {m av : List Addr} : ∀ {as : List A} {vs : List V}, RepAs Z H m av as vs → RepL Z H m av as vs
  | _, _, .nil => trivial
  | _, _, .cons h r => ⟨h, r.toL⟩
theorem se_tup {es : List Expr} {xs : Exs} {k : Nat} {p : Pos} (h : SA g N sc d c es xs) (hl : xs.len ≤ 1000) : SE g N sc d c (.Tuple es k p) (.tup xs) := by
  intro X zt ok W tk σd σ H m av S Q EX hW En R P
  simp only [ev] at P
  refine we_of (pe_tup pa_wa) ?_
  refine h X zt ok W tk σd σ H m av S _ _ hW En R (P.into fun as S1 e1 ms H1 vs E1 R1 r1 => ?_)
  have P1 := P.step e1 E1 R1
  refine ⟨small _ (by rw [← r1.length, evs_len xs e1]; exact hl), fun q hq => ?_⟩
  obtain ⟨E2, R2, nq⟩ := R1.laid (o := .tup vs) hq
  cases e3 : datas as with
  | none =>
    simp only [e3] at P1
    refine P1.later (ms := []) E2 (by rw [List.append_nil, List.append_nil]; exact R2) ?_
    have t' := RepL.evo0 R1.sub E2 r1.toL
    rw [List.append_nil, List.append_nil] at t' ⊢
    exact ⟨q, vs, rfl, upd_same, nq, t'⟩
  | some ds =>
    simp only [e3] at P1
    have rr := datas_rep r1 e3
    refine P1.later (ms := []) E2 (by rw [List.append_nil, List.append_nil]; exact R2) ?_
    have t' := RepAll.evo E2 R1.sub rr
    rw [List.append_nil] at t'
    rw [List.append_nil, List.append_nil]
    exact Rep.tupH (.inl upd_same) nq t'
theorem se_lst {es : List Expr} {xs : Exs} {p : Pos} (h : SA g N sc d c es xs) (hl : xs.len ≤ 1000) : SE g N sc d c (.List es p) (.lst xs) := by
  intro X zt ok W tk σd σ H m av S Q EX hW En R P
  simp only [ev] at P
  refine we_of (pe_lst pa_wa) ?_
  refine h X zt ok W tk σd σ H m av S _ _ hW En R (P.into fun as S1 e1 ms H1 vs E1 R1 r1 => ?_)
  have P1 := P.step e1 E1 R1
  obtain ⟨a, e2, P2⟩ := P1.some
  cases e3 : datas as with
  | none => rw [e3] at e2; cases e2
  | some ds =>
    rw [e3] at e2
    simp only [Option.map_some, Option.some.injEq] at e2
    subst e2
    have rr := datas_rep r1 e3
    refine ⟨small _ (by rw [← r1.length, evs_len xs e1]; exact hl), fun q hq => ?_⟩
    obtain ⟨E2, R2, nq⟩ := R1.laid (o := .lst vs) hq
    refine P2.later (ms := []) E2 (by rw [List.append_nil, List.append_nil]; exact R2) ?_
    have t' := RepAll.evo E2 R1.sub rr
    rw [List.append_nil] at t'
    rw [List.append_nil, List.append_nil]
    exact Rep.lstH (.inl upd_same) nq t'
theorem se_lstM {es : List Expr} {xs : Exs} {p : Pos} (h : SA g N sc d c es xs) (hl : xs.len ≤ 1000) : SE g N sc d c (.List es p) (.lstM xs) := by
  intro X zt ok W tk σd σ H m av S Q EX hW En R P
  simp only [ev] at P
  refine we_of (pe_lst pa_wa) ?_
  refine h X zt ok W tk σd σ H m av S _ _ hW En R (P.into fun as S1 e1 ms H1 vs E1 R1 r1 => ?_)
  have P1 := P.step e1 E1 R1
  cases e3 : datas as with
  | none => rw [e3] at P1; exact P1.elim
  | some ds =>
    rw [e3] at P1
    have rr := datas_rep r1 e3
    refine ⟨small _ (by rw [← r1.length, evs_len xs e1]; exact hl), fun q hq => ?_⟩
    obtain ⟨E2, R2⟩ := R1.grow hq rr
    refine P1.later (ms := [q]) E2 R2 ⟨q, ?_, rfl⟩
    rw [R1.len, List.getElem?_append_right (Nat.le_refl _), Nat.sub_self]; rfl
theorem se_lstA {es : List Expr} {xs : Exs} {p : Pos} (h : SA g N sc d c es xs) (hl : xs.len ≤ 1000) : SE g N sc d c (.List es p) (.lstA xs) := by
  intro X zt ok W tk σd σ H m av S Q EX hW En R P
  simp only [ev] at P
  refine we_of (pe_lst pa_wa) ?_
  refine h X zt ok W tk σd σ H m av S _ _ hW En R (P.into fun as S1 e1 ms H1 vs E1 R1 r1 => ?_)
  have P1 := P.step e1 E1 R1
  refine ⟨small _ (by rw [← r1.length, evs_len xs e1]; exact hl), fun q hq => ?_⟩
  obtain ⟨E2, R2⟩ := R1.growL hq r1.toL
  refine P1.later (ms := [q]) E2 R2 ⟨q, ?_, rfl⟩
  rw [R1.len, List.getElem?_append_right (Nat.le_refl _), Nat.sub_self]; rfl
/-- who stands about is told otherwise -/
theorem Post.reou {α β : Type} {Z : Kc} {ou ou' : Option (En × SL)} {rep : Hp → List Addr → List Addr → α → β → Prop} {m av : List Addr} {H : Hp} {r : R α} {Q : β → Hp → Prop} {E : XK} (P : Post Z ou rep m av H r Q E) (k : ∀ m av H S, Rel Z ou' m av H S → Rel Z ou m av H S) : Post Z ou' rep m av H r Q E := by
  cases r with
  | no => exact P
  | ok a S => exact fun ms H' v E1 R1 r1 => P ms H' v E1 (k _ _ _ _ R1) r1
  | ex c p S => exact fun ms H' cls d E1 R1 r1 => P ms H' cls d E1 (k _ _ _ _ R1) r1
/-- a def runs -/
theorem run_fnA {X : Cx} {zt : Zt} (ok : XOk g N sc d c X zt) {pins : List (Addr × Obj)} {σd : En} {σ : SL} {H : Hp} {s : Shared} {Q : VK} {m av : List Addr} {S : Sto} {k : Nat} {f : Addr} {ps : List Str} {us : List Value} {vs : List V} {as : List A} {args : Args} {fd : FuncData}
    (F : ∀ (cl : List (Str × Addr)) (ou : Option (En × SL)) (lc : LamC) (A' : Around) (outer : List Env) (s : Shared) (H : Hp) (args : Args) (us : List Value) (vs : List V) (as : List A) (m av : List Addr) (S : Sto) (Q : VK) (E : XK), Room d A' → A'.guards = some [] → Env0 X.prog X.w X.K X.mg X.base A' outer s H →
      BindsTo s fd args (ps.zip us) → us.length = ps.length → Vals vs us → RepAs ⟨X.K, cl, zt.ca, zt.lm, zt.tb⟩ H m av as vs → Rel ⟨X.K, cl, zt.ca, zt.lm, zt.tb⟩ ou m av H S → LamOk X.prog X.w X.K X.mg X.base ⟨X.K, cl, zt.ca, zt.lm, zt.tb⟩ ou lc (frs outer) [] H s.heap → PostA ⟨X.K, cl, zt.ca, zt.lm, zt.tb⟩ ou m av H (c.call lc k as S) Q E →
      codeAny (model X.prog X.w) A' (.call (.ref f) args) (CR (L2.CX X.prog X.w) outer X.prog X.w H s Q E) s) (hb : BindsTo s fd args (ps.zip us))
    {W : WX} (tk : Takes X W) {E : XK} (hW : ∀ cls d H', E cls d H' → W cls d σ H') (I : Inv X pins σ H s) (En : EnR (zc X zt) H m av σd σ) (r : Vals vs us) (ra : RepAs (zc X zt) H m av as vs) (Rl : Rel (zc X zt) zt.ou m av H S) (P : PostA (zc X zt) zt.ou m av H (c.call (c.lam σd) k as S) Q E) (hl : us.length = ps.length) :
    codeAny (model X.prog X.w) X.A (.call (.ref f) args) (fun r s' => match r with | .ok (.ret u) => EP X pins σ Q u s' | .ok _ => False | .error e => X.xe e s') s := by
  obtain ⟨ou', R', L', back⟩ := ok.lams pins σd σ H s m av S I En Rl
  refine codeAny_mono (F zt.cl ou' (c.lam σd) X.A X.stack s H args us vs as m av S Q E ok.room ok.gds I.env0 hb hl r ra R' L' (P.reou back)) fun r s' hq => ?_
  cases r with
  | error e => exact tk e s' (XE.of_call I hW hq)
  | ok fl =>
    cases fl with
    | ret u => exact I.after hq
    | next => exact False.elim hq
    | brk => exact False.elim hq
    | cont => exact False.elim hq
theorem run_fnD {X : Cx} {zt : Zt} (ok : XOk g N sc d c X zt) {pins : List (Addr × Obj)} {σd : En} {σ : SL} {H : Hp} {s : Shared} {Q : VK} {m av : List Addr} {S : Sto} {k : Nat} {f : Addr} {ps : List Str} {kw : Bool} {us : List Value} {vs : List V} {as : List A}
    (F : FnD X.prog X.w X.K zt.ca zt.lm zt.tb X.mg X.base d (fun lc => c.call lc k) f ps kw) {W : WX} (tk : Takes X W) {E : XK} (hW : ∀ cls d H', E cls d H' → W cls d σ H') (I : Inv X pins σ H s) (En : EnR (zc X zt) H m av σd σ) (r : Vals vs us) (ra : RepAs (zc X zt) H m av as vs) (Rl : Rel (zc X zt) zt.ou m av H S) (P : PostA (zc X zt) zt.ou m av H (c.call (c.lam σd) k as S) Q E) (hl : us.length = ps.length) :
    wpAny (model X.prog X.w) X.A (PySem.call (.ref f) us) (EP X pins σ Q) X.xe s := by
  obtain ⟨fd, b1, _, run⟩ := F
  refine wpAny_call (codeAny_mono (run_fnA ok run (b1 s us hl) tk hW I En r ra Rl P hl) fun r s' hq => ?_)
  cases r with
  | error e => exact hq
  | ok fl =>
    cases fl with
    | ret u => exact hq
    | next => exact False.elim hq
    | brk => exact False.elim hq
    | cont => exact False.elim hq
theorem run_fnK {X : Cx} {zt : Zt} (ok : XOk g N sc d c X zt) {pins : List (Addr × Obj)} {σd : En} {σ : SL} {H : Hp} {s : Shared} {Q : VK} {m av : List Addr} {S : Sto} {k : Nat} {f : Addr} {ps : List Str} {us : List Value} {vs : List V} {as : List A}
    (F : FnD X.prog X.w X.K zt.ca zt.lm zt.tb X.mg X.base d (fun lc => c.call lc k) f ps true) {W : WX} (tk : Takes X W) {E : XK} (hW : ∀ cls d H', E cls d H' → W cls d σ H') (I : Inv X pins σ H s) (En : EnR (zc X zt) H m av σd σ) (r : Vals vs us) (ra : RepAs (zc X zt) H m av as vs) (Rl : Rel (zc X zt) zt.ou m av H S) (P : PostA (zc X zt) zt.ou m av H (c.call (c.lam σd) k as S) Q E) (hl : us.length = ps.length) :
    wpAny (model X.prog X.w) X.A (PySem.call (.ref f) [] (ps.zip us)) (EP X pins σ Q) X.xe s := by
  obtain ⟨fd, _, b2, run⟩ := F
  refine wpAny_call (codeAny_mono (run_fnA ok run (b2 rfl s us hl) tk hW I En r ra Rl P hl) fun r s' hq => ?_)
  cases r with
  | error e => exact hq
  | ok fl =>
    cases fl with
    | ret u => exact hq
    | next => exact False.elim hq
    | brk => exact False.elim hq
    | cont => exact False.elim hq
/-- the number of arguments is right -/
theorem args_right {Z : Kc} {ou : Option (En × SL)} {E : XK} {H : Hp} {m av : List Addr} {S : Sto} {Q : VK} {call : LamC → List A → Sto → R A} {lc : LamC} {ps : List Str} {as : List A} {vs : List V} {us : List Value} (h : ∀ lc as S, as.length ≠ ps.length → call lc as S = .no) (P : PostA Z ou m av H (call lc as S) Q E)
    (ra : RepAs Z H m av as vs) (r : Vals vs us) : us.length = ps.length := by
  by_cases e : as.length = ps.length
  · rw [← r.length, ← ra.length]; exact e
  · rw [h lc as S e] at P; exact P.elim
theorem se_call {x : Str} {p pos : Pos} {e : Expr} {es : List Expr} {xs : Exs} {k : Nat} (h : Gb sc x) (hf : g.F x = some k) (d1 : (x == ("__debug__" : Str)) = false) (hs : SA g N sc d c (e :: es) xs)
    (he : ∀ env, starEach (e :: es) env = (false, eval e env) :: starEach es env) (hpl : ∀ pos env, (backTo pos (starEach es env)).any (·.1) = false) : SE g N sc d c (.Call (.Name x p) (e :: es) [] pos) (.call k xs) := by
  intro X zt ok W tk σd σ H m av S Q EX hW En R P
  simp only [ev] at P
  obtain ⟨f, hm, hk, F, hno⟩ := ok.calls x k hf
  intro pins s I
  refine wpAny_Call_Name_kw (ld_glob I (ok.gl h) hm ?_ d1)
  refine PySem.W.callWith_K (h₀ := X.base) I.ok.mod.kin hk (hs X zt ok W tk σd σ H m av S (fun vs H1 => ∃ as S1 ms, evs c xs σd S = .ok as S1 ∧ Evo m H ms H1 ∧ Rel (zc X zt) zt.ou (m ++ ms) (av ++ ms) H1 S1 ∧ RepAs (zc X zt) H1 (m ++ ms) (av ++ ms) as vs) EX hW En R (P.into fun as S1 e1 ms H1 vs E1 R1 r1 => ⟨as, S1, ms, e1, E1, R1, r1⟩) pos pins s I |> fun q => thn q fun us s1 q1 => ?_) (he _) (hpl _ _)
  obtain ⟨vs, H1, I1, rv, as, S1, ms, e1, E1, R1, r1⟩ := q1
  have P1 := P.step e1 E1 R1
  exact ⟨I1.kIn, run_fnD ok F tk hW I1 (En.evo R E1) rv r1 R1 P1 (args_right hno P1 r1 rv)⟩
theorem se_call0 {x : Str} {p pos : Pos} {k : Nat} (h : Gb sc x) (hf : g.F x = some k) (d1 : (x == ("__debug__" : Str)) = false) : SE g N sc d c (.Call (.Name x p) [] [] pos) (.call k .nil) := by
  intro X zt ok W tk σd σ H m av S Q EX hW En R P
  simp only [ev, evs, Pv.R.bind_ok] at P
  obtain ⟨f, hm, hk, F, hno⟩ := ok.calls x k hf
  intro pins s I
  refine wpAny_Call_Name_kw (ld_glob I (ok.gl h) hm ?_ d1)
  exact PySem.W.callWith_K0 I.kIn hk (run_fnD (us := []) (vs := []) ok F tk hW I En .nil .nil R P (args_right hno P .nil .nil))
end
/-- keywords -/
def SK (g : Stat) (N : List Str) (sc : Scope) (d : Nat) (c : Cfg) (ks : List Keyword) (ns : List Str) (is : Exs) : Prop := (∀ (X : Cx) (zt : Zt), XOk g N sc d c X zt → ∀ (W : WX), Takes X W → ∀ (σd : En) (σ : SL) (H : Hp) (m av : List Addr) (S : Sto) (Q : List V → Hp → Prop) (E : XK), (∀ cls d H', E cls d H' → W cls d σ H') → EnR (zc X zt) H m av σd σ → Rel (zc X zt) zt.ou m av H S → PostL (zc X zt) zt.ou m av H (evs c is σd S) Q E →
    ∀ pos pins s, Inv X pins σ H s → wpAny (model X.prog X.w) X.A (evalAll ((backToKw pos (keywordEach ks X.env)).map (·.2))) (AP X pins σ Q) X.xe s) ∧
  (∀ pos env, (backToKw pos (keywordEach ks env)).filterMap (·.1) = ns ∧ (backToKw pos (keywordEach ks env)).all (·.1.isSome) = true ∧ (backToKw pos (keywordEach ks env)).any (·.1.isNone) = false)
section
variable {g : Stat} {N : List Str} {sc : Scope} {d : Nat} {c : Cfg}
theorem sk_nil : SK g N sc d c [] [] .nil := by
  refine ⟨fun X zt ok W tk σd σ H m av S Q EX hW En R P pos pins s I => ?_, fun pos env => ⟨rfl, rfl, rfl⟩⟩
  exact (pk_nil (X := X)).run pos pins s σ H Q I (P.now R .nil)
theorem sk_cons {e : Expr} {x : Ex} {y : Str} {p : Pos} {ks : List Keyword} {ns : List Str} {xs : Exs} (he : SE g N sc d c e x) (hr : SK g N sc d c ks ns xs) : SK g N sc d c (⟨some y, e, p⟩ :: ks) (y :: ns) (.cons x xs) := by
  refine ⟨fun X zt ok W tk σd σ H m av S Q EX hW En R P pos pins s I => ?_, fun pos env => ?_⟩
  · simp only [evs] at P
    have hk : PK X ks (fun σ H Q => ∀ pos pins s, Inv X pins σ H s → wpAny (model X.prog X.w) X.A (evalAll ((backToKw pos (keywordEach ks X.env)).map (·.2))) (AP X pins σ Q) X.xe s) := ⟨fun pos pins s σ H Q I h => h pos pins s I⟩
    refine (pk_cons (nm := some y) (kpos := p) (pe_we (X := X) (e := e)) hk).run pos pins s σ H Q I ?_
    refine he X zt ok W tk σd σ H m av S _ _ hW En R (P.into fun a S1 e1 ms H1 v E1 R1 r1 => ?_)
    have P1 := P.step e1 E1 R1
    refine hr.1 X zt ok W tk σd σ H1 _ _ S1 _ _ hW (En.evo R E1) R1 (P1.into fun as S2 e2 ns H2 vs E2 R2 r2 => ?_)
    exact (P1.step e2 E2 R2).now R2 (.cons (RepA.evo R1 E2 r1) r2)
  · obtain ⟨h1, h2, h3⟩ := hr.2 pos env
    have e1 : backToKw pos (keywordEach (⟨some y, e, p⟩ :: ks) env) = (some y, do let v ← eval e env; standAt pos; pure v) :: backToKw pos (keywordEach ks env) := rfl
    rw [e1]
    refine ⟨?_, ?_, ?_⟩
    · simp only [List.filterMap_cons, h1]
    · simp only [List.all_cons, h2, Option.isSome_some, Bool.and_self]
    · simp only [List.any_cons, h3, Option.isNone_some, Bool.or_self]
theorem se_callK {x : Str} {p pos : Pos} {q : Keyword} {ks : List Keyword} {xs : Exs} {k : Nat} (h : Gb sc x) (hf : g.F x = some k) (hkw : g.kw k = true) (d1 : (x == ("__debug__" : Str)) = false) (hs : SK g N sc d c (q :: ks) (g.ps k) xs) : SE g N sc d c (.Call (.Name x p) [] (q :: ks) pos) (.call k xs) := by
  intro X zt ok W tk σd σ H m av S Q EX hW En R P
  simp only [ev] at P
  obtain ⟨f, hm, hk, F, hno⟩ := ok.calls x k hf
  rw [hkw] at F
  obtain ⟨n1, n2, n3⟩ := hs.2 pos X.env
  intro pins s I
  refine wpAny_Call_Name_kw (ld_glob I (ok.gl h) hm ?_ d1)
  refine PySem.W.callWith_KW0 (h₀ := X.base) I.ok.mod.kin hk n2 ?_ (by rw [n3]; rfl)
  refine thn (hs.1 X zt ok W tk σd σ H m av S (fun vs H1 => ∃ as S1 ms, evs c xs σd S = .ok as S1 ∧ Evo m H ms H1 ∧ Rel (zc X zt) zt.ou (m ++ ms) (av ++ ms) H1 S1 ∧ RepAs (zc X zt) H1 (m ++ ms) (av ++ ms) as vs) EX hW En R (P.into fun as S1 e1 ms H1 vs E1 R1 r1 => ⟨as, S1, ms, e1, E1, R1, r1⟩) pos pins s I) fun us s1 q1 => ?_
  obtain ⟨vs, H1, I1, rv, as, S1, ms, e1, E1, R1, r1⟩ := q1
  have P1 := P.step e1 E1 R1
  rw [n1]
  exact ⟨I1.kIn, run_fnK ok F tk hW I1 (En.evo R E1) rv r1 R1 P1 (args_right hno P1 r1 rv)⟩
/-- a built-in, its arguments told -/
theorem bi_run {X : Cx} {zt : Zt} (ok : XOk g N sc d c X zt) {f : Bi} {xs : Exs} {σd : En} {S : Sto} {H : Hp} {m av : List Addr} {Q : VK} {E : XK} (nr : f ≠ .listRange) (P : PostA (zc X zt) zt.ou m av H (ev c (.bi f xs) σd S) Q E) :
    ∀ as S1, evs c xs σd S = .ok as S1 → ∀ ms H1 vs, Evo m H ms H1 → Rel (zc X zt) zt.ou (m ++ ms) (av ++ ms) H1 S1 → RepAs (zc X zt) H1 (m ++ ms) (av ++ ms) as vs → wcl X (biK f).val (vs ++ biX f) H1 Q := by
  simp only [ev] at P
  intro as S1 e1 ms H1 vs E1 R1 r1
  have P1 := P.step e1 E1 R1
  obtain ⟨a, e2, P2⟩ := P1.some
  cases e3 : rds S1 as with
  | none => rw [e3] at e2; cases e2
  | some ds =>
    rw [e3] at e2
    simp only [Option.bind_some] at e2
    cases e4 : biD f ds with
    | none => rw [e4] at e2; cases e2
    | some z =>
      rw [e4] at e2
      simp only [Option.map_some, Option.some.injEq] at e2
      subst e2
      refine bi_ok ok.calm ok.gds (units200 ok) nr e4 (rds_rep R1 r1 e3) R1 fun H2 v E2 R2 rv => ?_
      exact P2.later (ms := []) E2 (by rw [List.append_nil, List.append_nil]; exact R2) (by rw [List.append_nil, List.append_nil]; exact rv)
theorem se_biF {x : Str} {id : String} {p pos : Pos} {e : Expr} {es : List Expr} {xs : Exs} (f : Bi) (hf : biK f = .fn x id) (hx : biX f = []) (hb : bootBuiltins x = some (.builtin id)) (hl : x ∈ g.bl) (h : Gb sc x) (d1 : (x == ("__debug__" : Str)) = false) (d2 : x ≠ "__name__") (hs : SA g N sc d c (e :: es) xs)
    (he : ∀ env, starEach (e :: es) env = (false, eval e env) :: starEach es env) (hpl : ∀ pos env, (backTo pos (starEach es env)).any (·.1) = false) : SE g N sc d c (.Call (.Name x p) (e :: es) [] pos) (.bi f xs) := by
  intro X zt ok W tk σd σ H m av S Q EX hW En R P
  have go := bi_run ok (by rintro rfl; cases hf) P
  simp only [ev] at P
  refine we_of (pe_callB (cl_wcl (f := .builtin id)) (ok.gl h) (ok.bl x hl) hb pa_wa d2 d1 (he _) (hpl _ _)) ?_
  refine hs X zt ok W tk σd σ H m av S _ _ hW En R (P.into fun as S1 e1 ms H1 vs E1 R1 r1 => ?_)
  have := go as S1 e1 ms H1 vs E1 R1 r1
  rw [hf, hx, List.append_nil] at this
  exact this
theorem se_biT {x : Str} {id : String} {p pos : Pos} {e : Expr} {es : List Expr} {xs : Exs} (f : Bi) (hf : biK f = .ty x id) (nr : f ≠ .listRange) (hb : bootBuiltins x = some (.type id)) (hl : x ∈ g.bl) (h : Gb sc x) (d1 : (x == ("__debug__" : Str)) = false) (d2 : x ≠ "__name__") (hs : SA g N sc d c (e :: es) xs)
    (he : ∀ env, starEach (e :: es) env = (false, eval e env) :: starEach es env) (hpl : ∀ pos env, (backTo pos (starEach es env)).any (·.1) = false) : SE g N sc d c (.Call (.Name x p) (e :: es) [] pos) (.bi f xs) := by
  intro X zt ok W tk σd σ H m av S Q EX hW En R P
  have go := bi_run ok nr P
  simp only [ev] at P
  have hx : biX f = [] := by cases f <;> first | rfl | cases hf
  refine we_of (pe_callTy (cl_wcl (f := .type id)) (ok.gl h) (ok.bl x hl) hb pa_wa d2 d1 (he _) (hpl _ _)) ?_
  refine hs X zt ok W tk σd σ H m av S _ _ hW En R (P.into fun as S1 e1 ms H1 vs E1 R1 r1 => ?_)
  have := go as S1 e1 ms H1 vs E1 R1 r1
  rw [hf, hx, List.append_nil] at this
  exact this
theorem se_biI {x : Str} {id : String} {p pos : Pos} {e : Expr} {es : List Expr} {xs : Exs} (f : Bi) (hf : biK f = .im x id) (hi : g.im x = some id) (h : Gb sc x) (d1 : (x == ("__debug__" : Str)) = false) (hs : SA g N sc d c (e :: es) xs)
    (he : ∀ env, starEach (e :: es) env = (false, eval e env) :: starEach es env) (hpl : ∀ pos env, (backTo pos (starEach es env)).any (·.1) = false) : SE g N sc d c (.Call (.Name x p) (e :: es) [] pos) (.bi f xs) := by
  intro X zt ok W tk σd σ H m av S Q EX hW En R P
  have go := bi_run ok (by rintro rfl; cases hf) P
  simp only [ev] at P
  have hx : biX f = [] := by cases f <;> first | rfl | cases hf
  refine we_of (pe_callBfun (cl_wcl (f := .builtin id)) (ok.gl h) (ok.im x id hi) pa_wa d1 (he _) (hpl _ _)) ?_
  refine hs X zt ok W tk σd σ H m av S _ _ hW En R (P.into fun as S1 e1 ms H1 vs E1 R1 r1 => ?_)
  have := go as S1 e1 ms H1 vs E1 R1 r1
  rw [hf, hx, List.append_nil] at this
  exact this
theorem se_isi {p p2 pos : Pos} {T : String} {e : Expr} {e' : Ex} (f : Bi) (hf : biK f = .fn "isinstance" "isinstance") (hT : biX f = [.ty T]) (hb : bootBuiltins (Str.ofString T) = some (.type T)) (hl : ("isinstance" : Str) ∈ g.bl) (hl2 : Str.ofString T ∈ g.bl) (h : Gb sc "isinstance") (h2 : Gb sc (Str.ofString T))
    (d1 : (Str.ofString T == ("__debug__" : Str)) = false) (d2 : Str.ofString T ≠ "__name__") (he : SE g N sc d c e e') (hs : ∀ es env, starEach (e :: es) env = (false, eval e env) :: starEach es env) : SE g N sc d c (.Call (.Name "isinstance" p) [e, .Name (Str.ofString T) p2] [] pos) (.bi f (.cons e' .nil)) := by
  intro X zt ok W tk σd σ H m av S Q EX hW En R P
  have go := bi_run ok (by rintro rfl; cases hf) P
  simp only [ev] at P
  refine we_of (pe_callB (cl_wcl (f := .builtin "isinstance")) (ok.gl h) (ok.bl _ hl) (by decide +kernel) (pa_cons pe_we (pa_cons (pe_bltn (v := .ty T) (ok.gl h2) (ok.bl _ hl2) hb rfl d2 d1) pa_nil (by rfl)) (hs _ _)) (by decide) (by decide) (hs _ _) (by rfl)) ?_
  refine he X zt ok W tk σd σ H m av S _ EX hW En R ?_
  cases q : ev c e' σd S with
  | ex _ _ _ => simp only [evs, q, Pv.R.bind_ex] at P; exact P
  | no => simp only [evs, q, Pv.R.bind_no] at P; exact P.elim
  | ok a S2 =>
    intro ms H1 v E1 R1 r1
    have e1 : evs c (.cons e' .nil) σd S = .ok [a] S2 := by simp only [evs, q, Pv.R.bind_ok]
    have := go _ _ e1 ms H1 [v] E1 R1 (.cons r1 .nil)
    rw [hf, hT] at this
    exact this
theorem se_lrange {p p2 pos pos2 : Pos} {e : Expr} {e' : Ex} (hl : ("list" : Str) ∈ g.bl) (hl2 : ("range" : Str) ∈ g.bl) (h : Gb sc "list") (h2 : Gb sc "range") (he : SE g N sc d c e e') (hs : ∀ es env, starEach (e :: es) env = (false, eval e env) :: starEach es env) :
    SE g N sc d c (.Call (.Name "list" p) [.Call (.Name "range" p2) [e] [] pos2] [] pos) (.bi .listRange (.cons e' .nil)) := by
  intro X zt ok W tk σd σ H m av S Q EX hW En R P
  simp only [ev, evs] at P
  cases q : ev c e' σd S with
  | ex _ _ _ =>
    rw [q] at P
    refine we_of (pe_listRg ok.calm (ok.gl h) (ok.bl _ hl) (prg_1 (ok.gl h2) (ok.bl _ hl2) pe_we (hs _ _)) (by rfl)) ?_
    refine he X zt ok W tk σd σ H m av S _ _ hW En R ?_
    rw [q]
    exact P
  | no => rw [q] at P; exact P.elim
  | ok a S1 =>
    refine we_of (pe_listRg ok.calm (ok.gl h) (ok.bl _ hl) (prg_1 (ok.gl h2) (ok.bl _ hl2) pe_we (hs _ _)) (by rfl)) ?_
    refine he X zt ok W tk σd σ H m av S _ _ hW En R (post_ok q fun ms H1 v E1 R1 r1 => ?_)
    have e1 : (ev c e' σd S).bind (fun x S1 => (Pv.R.ok [] S1 : Pv.R (List A)).bind fun xs S2 => .ok (x :: xs) S2) = .ok [a] S1 := by rw [q]; rfl
    have P1 := P.step e1 E1 R1
    obtain ⟨z, e2, P2⟩ := P1.some
    simp only [rds] at e2
    cases e3 : rd S1 a with
    | none => rw [e3] at e2; cases e2
    | some dt =>
      rw [e3] at e2
      simp only [Option.bind_some, Option.map_some] at e2
      cases dt with
      | int n =>
        simp only [biD] at e2
        split at e2
        · rename_i hn
          simp only [Option.map_some, Option.some.injEq] at e2
          subst e2
          have hv := (rd_rep R1 r1 e3).int
          subst hv
          refine ⟨n, rfl, ⟨by decide, by decide, ?_, ?_, ?_⟩, fun l hl => ?_⟩
          · omega
          · omega
          · omega
          · obtain ⟨E2, R2, nq⟩ := R1.laid (o := .lst (rgV 0 n)) hl
            refine P2.later (ms := []) E2 (by rw [List.append_nil, List.append_nil]; exact R2) ?_
            rw [List.append_nil, List.append_nil]
            refine Rep.lstH (.inl upd_same) nq ?_
            have e4 : rgV 0 n = (List.range n.toNat).map fun i : Nat => V.int (i : Int) := by
              unfold rgV
              rw [Int.sub_zero]
              exact List.map_congr_left fun i _ => by rw [Int.zero_add]
            rw [e4]
            exact rep_rngD _
        · cases e2
      | _ => simp [biD] at e2
theorem se_ix {a b : Expr} {a' b' : Ex} {p : Pos} (ha : SE g N sc d c a a') (hb : SE g N sc d c b b') (hp : PlainIx b) : SE g N sc d c (.Subscript a b p) (.ix a' b') := by
  intro X zt ok W tk σd σ H m av S Q EX hW En R P
  simp only [ev] at P
  refine we_of (pe_ix ix_seq pe_we pe_we hp) ?_
  refine ha X zt ok W tk σd σ H m av S _ _ hW En R (P.into fun x S1 e1 ms H1 v E1 R1 r1 => ?_)
  have P1 := P.step e1 E1 R1
  refine hb X zt ok W tk σd σ H1 _ _ S1 _ _ hW (En.evo R E1) R1 (P1.into fun y S2 e2 ns H2 u E2 R2 r2 => ?_)
  have P2 := P1.step e2 E2 R2
  obtain ⟨z, e3, P3⟩ := P2.some
  unfold ixA at e3
  split at e3
  · rename_i as i
    obtain ⟨q, vs, rfl, hq, nq, t⟩ := RepA.evo R1 E2 r1
    have hu : u = .int i := by
      have r' : Rep X.K H2 (av ++ ms ++ ns) (.int i) u := r2
      cases r'; rfl
    subst hu
    unfold L2.atI at e3
    cases w : ixN as.length i with
    | none => rw [w] at e3; cases e3
    | some j =>
      rw [w] at e3
      obtain ⟨v', h1, h2⟩ := t.get e3
      exact .inr (.inl ⟨q, vs, i, v', rfl, rfl, .inl (.inl hq), by unfold L2.atI; rw [← t.length, w]; exact h1, P3.now R2 h2⟩)
  · cases e4 : rd S2 x with
    | none => rw [e4] at e3; cases e3
    | some x' =>
      rw [e4] at e3
      simp only [Option.bind_some] at e3
      cases e5 : rd S2 y with
      | none => rw [e5] at e3; cases e3
      | some y' =>
        rw [e5] at e3
        simp only [Option.bind_some] at e3
        cases e6 : ixD x' y' with
        | none => rw [e6] at e3; cases e3
        | some k =>
          rw [e6] at e3
          simp only [Option.map_some, Option.some.injEq] at e3
          subst e3
          have rx := rd_rep R2 (RepA.evo R1 E2 r1) e4
          have ry := rd_rep R2 r2 e5
          unfold ixD at e6
          split at e6
          · obtain ⟨q, vs, rfl, hq, t⟩ := rx.lst
            have hu := ry.int; subst hu
            obtain ⟨w, h1, h2⟩ := t.atI e6
            exact .inl ⟨q, vs, _, w, rfl, rfl, hq, h1, P3.now R2 h2⟩
          · obtain ⟨q, vs, rfl, hq, t⟩ := rx.tup
            have hu := ry.int; subst hu
            obtain ⟨w, h1, h2⟩ := t.atI e6
            exact .inr (.inl ⟨q, vs, _, w, rfl, rfl, hq, h1, P3.now R2 h2⟩)
          · cases e6
def wo (X : Cx) : Option Expr → TO
  | none => tNoPart
  | some e => tPart (we X e)
theorem po_wo {X : Cx} : ∀ {o : Option Expr}, PO X o (wo X o)
  | none => po_none
  | some e => po_some pe_we
def SO (g : Stat) (N : List Str) (sc : Scope) (d : Nat) (c : Cfg) (o : Option Expr) (is : Exs) : Prop := ∀ (X : Cx) (zt : Zt), XOk g N sc d c X zt → ∀ (σd : En) (σ : SL) (H : Hp) (m av : List Addr) (S S1 : Sto) (as : List A) (i : Option Int) (Q : Option Int → Hp → Prop), EnR (zc X zt) H m av σd σ → Rel (zc X zt) zt.ou m av H S → evs c is σd S = .ok as S1 → optI as = some i →
  (∀ ms H1, Evo m H ms H1 → Rel (zc X zt) zt.ou (m ++ ms) (av ++ ms) H1 S1 → Q i H1) → wo X o σ H Q
theorem so_none : SO g N sc d c none .nil := by
  intro X zt ok σd σ H m av S S1 as i Q En R e1 e2 q
  simp only [evs, Pv.R.ok.injEq] at e1
  obtain ⟨rfl, rfl⟩ := e1
  simp only [optI, Option.some.injEq] at e2
  subst e2
  exact q [] H Evo.refl (by rw [List.append_nil, List.append_nil]; exact R)
theorem so_some {e : Expr} {x : Ex} (he : SE g N sc d c e x) : SO g N sc d c (some e) (.cons x .nil) := by
  intro X zt ok σd σ H m av S S1 as i Q En R e1 e2 q
  simp only [evs] at e1
  cases w : ev c x σd S with
  | ex _ _ _ => rw [w] at e1; cases e1
  | no => rw [w] at e1; cases e1
  | ok a S2 =>
    rw [w, Pv.R.bind_ok, Pv.R.bind_ok] at e1
    simp only [Pv.R.ok.injEq] at e1
    obtain ⟨rfl, rfl⟩ := e1
    refine he X zt ok _ takes_no σd σ H m av S _ (fun _ _ _ => False) (fun _ _ _ h => h) En R (post_ok w fun ms H1 v E1 R1 r1 => ?_)
    unfold optI at e2
    split at e2
    · rename_i h; cases h
    · rename_i h
      simp only [List.cons.injEq, and_true] at h
      subst h
      simp only [Option.some.injEq] at e2
      subst e2
      cases r1
      exact ⟨_, rfl, q ms H1 E1 R1⟩
    · cases e2
theorem sl_lt {X : Cx} : SlR X (fun x lo hi H Q => rSlL X.K x lo hi H Q ∨ rSlT X.K x lo hi H Q) := by
  intro pins s σ H x v vl vu lo hi sl Q I rx hs pl pu h
  exact h.elim (sl_list pins s σ H x v vl vu lo hi sl Q I rx hs pl pu) (sl_tup pins s σ H x v vl vu lo hi sl Q I rx hs pl pu)
theorem se_slice {a : Expr} {a' : Ex} {lo hi : Option Expr} {l h : Exs} {p p2 : Pos} (ha : SE g N sc d c a a') (hl : SO g N sc d c lo l) (hh : SO g N sc d c hi h) : SE g N sc d c (.Subscript a (.Slice lo hi none p2) p) (.slice a' l h) := by
  intro X zt ok W tk σd σ H m av S Q EX hW En R P
  simp only [ev] at P
  refine we_of (pe_slice sl_lt pe_we po_wo po_wo) ?_
  refine ha X zt ok W tk σd σ H m av S _ _ hW En R (P.into fun x S1 e1 ms H1 v E1 R1 r1 => ?_)
  have P1 := P.step e1 E1 R1
  obtain ⟨la, S2, e2, P1⟩ := P1.calmed
  cases w1 : optI la with
  | none =>
    have P2 := P1
    rw [Pv.R.bind_ok] at P2
    obtain ⟨ha2, S3, e3, P2⟩ := P2.calmed
    rw [Pv.R.bind_ok] at P2
    obtain ⟨z, e4, _⟩ := P2.some
    cases e5 : rd S3 x with
    | none => rw [e5] at e4; cases e4
    | some x' => rw [e5, w1] at e4; simp only [Option.bind_some] at e4; cases e4
  | some li =>
    refine hl X zt ok σd σ H1 _ _ S1 S2 la li _ (En.evo R E1) R1 e2 w1 fun ns H2 E2 R2 => ?_
    have P2 := P1.step rfl E2 R2
    obtain ⟨hb, S3, e3, P2⟩ := P2.calmed
    cases w2 : optI hb with
    | none =>
      rw [Pv.R.bind_ok] at P2
      obtain ⟨z, e4, _⟩ := P2.some
      cases e5 : rd S3 x with
      | none => rw [e5] at e4; cases e4
      | some x' => rw [e5, w1, w2] at e4; simp only [Option.bind_some] at e4; cases e4
    | some hi' =>
      refine hh X zt ok σd σ H2 _ _ S2 S3 hb hi' _ (EnR.evo R1 E2 (En.evo R E1)) R2 e3 w2 fun ks H3 E3 R3 => ?_
      have P3 := P2.step rfl E3 R3
      obtain ⟨z, e4, P4⟩ := P3.some
      cases e5 : rd S3 x with
      | none => rw [e5] at e4; cases e4
      | some x' =>
        rw [e5, w1, w2] at e4
        simp only [Option.bind_some] at e4
        cases e6 : sliceD x' li hi' with
        | none => rw [e6] at e4; cases e4
        | some y =>
          rw [e6] at e4
          simp only [Option.map_some, Option.some.injEq] at e4
          subst e4
          have rx := rd_rep R3 (RepA.evo R2 E3 (RepA.evo R1 E2 r1)) e5
          unfold sliceD at e6
          split at e6
          · simp only [Option.some.injEq] at e6
            subst e6
            obtain ⟨q, vs, rfl, hq, t⟩ := rx.lst
            refine .inl ⟨q, vs, rfl, hq, fun u hu => ?_⟩
            obtain ⟨E4, R4, nq⟩ := R3.laid (o := .lst (cutV vs li hi')) hu
            refine P4.later (ms := []) E4 (by rw [List.append_nil, List.append_nil]; exact R4) ?_
            rw [List.append_nil, List.append_nil]
            have t' := RepAll.evo E4 R3.sub (cut_rep t li hi')
            rw [List.append_nil] at t'
            exact Rep.lstH (.inl upd_same) nq t'
          · split at e6
            · rename_i hlt
              simp only [Option.some.injEq] at e6
              subst e6
              obtain ⟨q, vs, rfl, hq, t⟩ := rx.tup
              refine .inr ⟨q, vs, rfl, hq, fun ⟨z1, z2⟩ => ?_, fun u hu => ?_⟩
              · unfold cutD at hlt
                rw [t.length, z1, z2, List.drop_zero, Nat.sub_zero, List.take_of_length_le (Nat.le_of_eq t.length)] at hlt
                have := t.length
                omega
              · obtain ⟨E4, R4, nq⟩ := R3.laid (o := .tup (cutV vs li hi')) hu
                refine P4.later (ms := []) E4 (by rw [List.append_nil, List.append_nil]; exact R4) ?_
                rw [List.append_nil, List.append_nil]
                have t' := RepAll.evo E4 R3.sub (cut_rep t li hi')
                rw [List.append_nil] at t'
                exact Rep.tupH (.inl upd_same) nq t'
            · cases e6
          · cases e6
end
end Pv
set_option Elab.async false
set_option maxRecDepth 100000
set_option linter.unusedVariables false
/-! Pv7b: new lists: moved into the store, repeated, joined. -/
namespace Pv
open PySem PySem.Spec PyProof.Rows L2
section
variable {Z : Kc} {ou : Option (En × SL)} {H : Hp} {m av ms av' : List Addr}
mutual
theorem RepA.wide : ∀ {x : A} {v : V}, RepA Z H m av x v → RepA Z H (m ++ ms) av x v
  | .d _, _, r => r
  | .ref i, _, r => by
    obtain ⟨a, h1, h2⟩ := r
    refine ⟨a, ?_, h2⟩
    rw [List.getElem?_append_left (List.getElem?_eq_some_iff.mp h1).1]
    exact h1
  | .tup as, _, r => by
    obtain ⟨a, vs, e1, h, n, t⟩ := r
    exact ⟨a, vs, e1, h, n, RepL.wide t⟩
  | .exc _ _, _, r => r
  | .lam _, _, r => r
theorem RepL.wide : ∀ {xs : List A} {vs : List V}, RepL Z H m av xs vs → RepL Z H (m ++ ms) av xs vs
  | [], [], _ => trivial
  | [], _ :: _, r => r.elim
  | _ :: _, [], r => r.elim
  | _ :: _, _ :: _, r => ⟨RepA.wide r.1, RepL.wide r.2⟩
end
theorem ObjR.wide {o : O} {a : Addr} (x : ObjR Z H m av o a) : ObjR Z H (m ++ ms) av o a := by
  cases o with
  | lst ds => exact x
  | lsa as => obtain ⟨vs, h1, h2⟩ := x; exact ⟨vs, h1, RepL.wide h2⟩
  | tab j => exact x
theorem EnR.wide {σd : En} {σ : L2.St} (r : EnR Z H m av σd σ) : EnR Z H (m ++ ms) av σd σ := by
  induction r with
  | nil => exact .nil
  | val h r ih => exact .val (RepA.wide h) ih
  | emp r ih => exact .emp ih
theorem EnR.less (s : ∀ a ∈ av', a ∈ av) {σd : En} {σ : L2.St} (r : EnR Z H m av σd σ) : EnR Z H m av' σd σ := by
  induction r with
  | nil => exact .nil
  | val h r ih => exact .val (RepA.less s h) ih
  | emp r ih => exact .emp ih
theorem ObjR.less (s : ∀ a ∈ av', a ∈ av) {o : O} {a : Addr} (x : ObjR Z H m av o a) : ObjR Z H m av' o a := by
  cases o with
  | lst ds => obtain ⟨vs, h1, h2⟩ := x; exact ⟨vs, h1, RepAll.less s h2⟩
  | lsa as => obtain ⟨vs, h1, h2⟩ := x; exact ⟨vs, h1, RepL.less s h2⟩
  | tab j => exact x
theorem Rel.reav {S : Sto} (R : Rel Z ou m av H S) (s : ∀ a ∈ av', a ∈ av) (k : ∀ a ∈ m, a ∈ av') : Rel Z ou m av' H S :=
  ⟨k, fun a ha => R.live a (s a ha), fun a ha => R.noc a (s a ha), R.nd, R.sto.imp fun o a _ x => ObjR.less s x, fun p hp => EnR.less s (R.ou p hp)⟩
/-- a list that stands by itself becomes one of the store -/
theorem Rel.adopt {S : Sto} {p : Addr} {ds : List PyData} {vs : List V} (R : Rel Z ou m av H S) (hp : p ∈ av) (hn : p ∉ m) (h : H p = some (.lst vs)) (r : RepAll Z.K H av ds vs) : Rel Z ou (m ++ [p]) av H (S ++ [.lst ds]) := by
  refine ⟨fun a ha => ?_, R.live, R.noc, ?_, ?_, fun q hq => EnR.wide (R.ou q hq)⟩
  · rcases List.mem_append.mp ha with z | z
    · exact R.sub a z
    · rw [List.mem_singleton.mp z]; exact hp
  · exact List.nodup_append.mpr ⟨R.nd, by simp, fun a ha b hb z => hn (by rw [List.mem_singleton.mp hb] at z; exact z ▸ ha)⟩
  · exact StoR.append (R.sto.imp fun o a _ x => ObjR.wide x) (.cons ⟨vs, h, r⟩ .nil)
theorem Rel.laidA {S : Sto} {p : Addr} {o : HO} (R : Rel Z ou m av H S) (hp : H p = none) (ho : ∀ c, o ≠ LamX.CodeO p c := by intro c; unfold LamX.CodeO; exact fun z => nomatch z) : Evo m H [p] (upd H p o) ∧ Rel Z ou m (av ++ [p]) (upd H p o) S := by
  have k : ∀ a u, H a = some u → upd H p o a = some u := fun a u h => by rw [upd_ne (ne_of_none h hp)]; exact h
  have e : Evo m H [p] (upd H p o) := ⟨fun a u h _ => k a u h, fun q h => by rw [List.mem_singleton.mp h]; exact hp⟩
  have np : p ∉ m := fun z => by
    obtain ⟨u, hu⟩ := R.live p (R.sub p z)
    rw [hu] at hp; cases hp
  have R2 : Rel Z ou m (av ++ [p]) (upd H p o) S := by
    refine ⟨fun a ha => List.mem_append_left _ (R.sub a ha), fun a ha => ?_, fun a ha c => ?_, R.nd, ?_, fun q hq => ?_⟩
    · rcases List.mem_append.mp ha with z | z
      · obtain ⟨u, hu⟩ := R.live a z
        exact ⟨u, k a u hu⟩
      · rw [List.mem_singleton.mp z]; exact ⟨_, upd_same⟩
    · rcases List.mem_append.mp ha with z | z
      · obtain ⟨v, hv⟩ := R.live a z
        rw [k _ _ hv, ← hv]; exact R.noc a z c
      · rw [List.mem_singleton.mp z, upd_same]; exact fun w => ho c (Option.some.inj w)
    · have npa : ∀ {x : Addr} {u : HO}, H x = some u → x ∉ [p] := fun h z => by rw [List.mem_singleton.mp z, hp] at h; cases h
      have e0 : Evo m H [] (upd H p o) := ⟨fun a u h _ => k a u h, fun _ h => nomatch h⟩
      refine R.sto.imp fun q a ha x => ?_
      have x1 := ObjR.evo R.sub e R.sto.noCode (k a) x
      have key : ∀ {o' : O}, ObjR Z H m av o' a → ObjR Z (upd H p o) (m ++ [p]) (av ++ [p]) o' a → ObjR Z (upd H p o) m (av ++ [p]) o' a := fun {o'} y y1 => by
        cases o' with
        | lst ds => exact y1
        | tab j => exact y1
        | lsa as =>
          obtain ⟨vs, h1, h2⟩ := y
          exact ⟨vs, k _ _ h1, (RepL.evoA R.sub e h2)⟩
      exact key x x1
    · exact EnR.evoA R.sub e (R.ou q hq)
  exact ⟨e, R2⟩
where
  RepA.evoA {Z : Kc} {H H' : Hp} {m av ms : List Addr} (sub : ∀ a ∈ m, a ∈ av) (e : Evo m H ms H') : ∀ {x : A} {v : V}, RepA Z H m av x v → RepA Z H' m (av ++ ms) x v
    | .d _, _, r => Rep.evo e sub r
    | .ref i, _, r => r
    | .tup as, _, r => by
      obtain ⟨a, vs, e1, h, n, t⟩ := r
      obtain ⟨h1, h2⟩ := e.at_ h fun z => n (sub _ z)
      exact ⟨a, vs, e1, h1, not_app n h2, RepL.evoA sub e t⟩
    | .exc c p, _, r => RepA.evo0 (Z := Z) sub e (x := .exc c p) r
    | .lam k, _, r => RepA.evo0 (Z := Z) sub e (x := .lam k) r
  RepL.evoA {Z : Kc} {H H' : Hp} {m av ms : List Addr} (sub : ∀ a ∈ m, a ∈ av) (e : Evo m H ms H') : ∀ {xs : List A} {vs : List V}, RepL Z H m av xs vs → RepL Z H' m (av ++ ms) xs vs
    | [], [], _ => trivial
    | [], _ :: _, r => r.elim
    | _ :: _, [], r => r.elim
    | _ :: _, _ :: _, r => ⟨RepA.evoA sub e r.1, RepL.evoA sub e r.2⟩
  EnR.evoA {Z : Kc} {H H' : Hp} {m av ms : List Addr} (sub : ∀ a ∈ m, a ∈ av) (e : Evo m H ms H') {σd : En} {σ : L2.St} (r : EnR Z H m av σd σ) : EnR Z H' m (av ++ ms) σd σ := by
    induction r with
    | nil => exact .nil
    | val h r ih => exact .val (RepA.evoA sub e h) ih
    | emp r ih => exact .emp ih
end
end Pv
set_option Elab.async false
set_option maxRecDepth 100000
set_option linter.unusedVariables false
/-! Pv7c: expressions that give a new list. -/
namespace Pv
open PySem PySem.Spec PyProof.Rows L2
/-- what is wished of a new list -/
def PostF (Z : Kc) (ou : Option (En × SL)) (m av : List Addr) (H : Hp) (r : R A) (Q : VK) (E : XK) : Prop := match r with
  | .ok a S' => ∀ ds, a = .d (.list ds) → ∀ ms p H' vs, Evo m H (ms ++ [p]) H' → Rel Z ou (m ++ ms) (av ++ (ms ++ [p])) H' S' → p ∉ m ++ ms → H' p = some (.lst vs) → RepAll Z.K H' (av ++ (ms ++ [p])) ds vs → Q (.ref p) H'
  | .ex c p S' => ∀ ms H' cls d, Evo m H ms H' → Rel Z ou (m ++ ms) (av ++ ms) H' S' → ExR Z.K Z.ca H' (av ++ ms) c p cls d → E cls d H'
  | .no => False
section
variable (g : Stat) (N : List Str) (sc : Scope) (d : Nat) (c : Cfg)
def SEF (e : Expr) (i : Ex) : Prop := ∀ (X : Cx) (zt : Zt), XOk g N sc d c X zt → ∀ (W : WX), Takes X W → ∀ (σd : En) (σ : SL) (H : Hp) (m av : List Addr) (S : Sto) (Q : VK) (E : XK), (∀ cls d H', E cls d H' → W cls d σ H') → EnR (zc X zt) H m av σd σ → Rel (zc X zt) zt.ou m av H S → PostF (zc X zt) zt.ou m av H (ev c i σd S) Q E → we X e σ H Q
end
section
variable {g : Stat} {N : List Str} {sc : Scope} {d : Nat} {c : Cfg}
theorem PostF.intoF {Z : Kc} {ou : Option (En × SL)} {α δ : Type} {m av : List Addr} {H : Hp} {r : R α} {f : α → Sto → R A} {Q : VK} {E : XK} {rep1 : Hp → List Addr → List Addr → α → δ → Prop} {Q' : δ → Hp → Prop} (h : PostF Z ou m av H (r.bind f) Q E) (k : ∀ x S1, r = .ok x S1 → ∀ ms H1 v, Evo m H ms H1 → Rel Z ou (m ++ ms) (av ++ ms) H1 S1 → rep1 H1 (m ++ ms) (av ++ ms) x v → Q' v H1) : Post Z ou rep1 m av H r Q' E := by
  cases r with
  | ok x S => exact k x S rfl
  | ex c p S => exact h
  | no => exact h.elim
theorem PostF.stepF {Z : Kc} {ou : Option (En × SL)} {α : Type} {m av ms : List Addr} {H H1 : Hp} {r : R α} {f : α → Sto → R A} {Q : VK} {E : XK} (h : PostF Z ou m av H (r.bind f) Q E) {x : α} {S1 : Sto} (e : r = .ok x S1) (Ev : Evo m H ms H1) (R1 : Rel Z ou (m ++ ms) (av ++ ms) H1 S1) : PostF Z ou (m ++ ms) (av ++ ms) H1 (f x S1) Q E := by
  subst e
  rw [R.bind_ok] at h
  cases q : f x S1 with
  | ok y S2 =>
    rw [q] at h
    intro ds hy ns p H2 vs E2 R2 hp hl t
    have E3 := Evo.trans R1 Ev E2
    have e1 : m ++ ms ++ ns = m ++ (ms ++ ns) := List.append_assoc ..
    have e2 : av ++ ms ++ (ns ++ [p]) = av ++ (ms ++ ns ++ [p]) := by simp only [List.append_assoc]
    rw [e1, e2] at R2
    rw [e1] at hp
    rw [e2] at t
    rw [← List.append_assoc] at E3
    exact h ds hy (ms ++ ns) p H2 vs E3 R2 hp hl t
  | ex c p S =>
    rw [q] at h
    intro ns H2 cls d E2 R2 rv
    rw [List.append_assoc] at rv
    rw [List.append_assoc, List.append_assoc] at R2
    exact h (ms ++ ns) H2 cls d (Evo.trans R1 Ev E2) R2 rv
  | no => rw [q] at h; exact h.elim
/-- a new list, laid at the end -/
theorem PostF.lay {Z : Kc} {ou : Option (En × SL)} {m av : List Addr} {H : Hp} {S : Sto} {ds : List PyData} {vs : List V} {Q : VK} {E : XK} {p : Addr} (h : PostF Z ou m av H (.ok (.d (.list ds)) S) Q E) (R : Rel Z ou m av H S) (hp : H p = none) (t : RepAll Z.K H av ds vs) : Q (.ref p) (upd H p (.lst vs)) := by
  obtain ⟨E2, R2⟩ := R.laidA (o := .lst vs) hp
  refine h ds rfl [] p _ vs E2 (by rw [List.append_nil]; exact R2) (fun z => ?_) upd_same (RepAll.evo E2 R.sub t)
  rw [List.append_nil] at z
  obtain ⟨u, hu⟩ := R.live p (R.sub p z)
  rw [hu] at hp; cases hp
/-- kept as data -/
theorem PostF.of_Post {Z : Kc} {ou : Option (En × SL)} {m av : List Addr} {H : Hp} {S : Sto} {r : Pv.R A} {Q : VK} {E : XK} (R : Rel Z ou m av H S) (P : PostA Z ou m av H r Q E) : PostF Z ou m av H r Q E := by
  cases q : r with
  | no => rw [q] at P; exact P
  | ex _ _ _ => rw [q] at P; exact P
  | ok a S1 =>
    rw [q] at P
    intro ds ha ms p H' vs E1 R1 hp hl t
    subst ha
    have hnew : ∀ x ∈ ms ++ [p], H x = none := E1.new
    have npm : p ∉ av ++ ms := fun z => by
      rcases List.mem_append.mp z with z | z
      · obtain ⟨u, hu⟩ := R.live p z
        rw [hnew p (List.mem_append_right _ (List.mem_singleton.mpr rfl))] at hu; cases hu
      · exact hp (List.mem_append_right _ z)
    have sub : ∀ a ∈ av ++ ms, a ∈ av ++ (ms ++ [p]) := fun a ha => by rw [← List.append_assoc]; exact List.mem_append_left _ ha
    refine P ms H' (.ref p) ⟨E1.keep, fun x hx => hnew x (List.mem_append_left _ hx)⟩ (R1.reav sub fun a ha => ?_) ?_
    · have := R1.sub a ha
      rw [← List.append_assoc] at this
      rcases List.mem_append.mp this with z | z
      · exact z
      · exact absurd (by rw [← List.mem_singleton.mp z]; exact ha) hp
    · exact Rep.lstH (.inl hl) npm (RepAll.less sub t)
theorem SE.of_SEF {e : Expr} {i : Ex} (h : SEF g N sc d c e i) : SE g N sc d c e i :=
  fun X zt ok W tk σd σ H m av S Q EX hW En R P => h X zt ok W tk σd σ H m av S Q EX hW En R (PostF.of_Post R P)
/-- moved into the store -/
theorem PostF.of_own {Z : Kc} {ou : Option (En × SL)} {m av : List Addr} {H : Hp} {S : Sto} {Q : VK} {E : XK} {i : Ex} {σd : En} (P : PostA Z ou m av H (ev c (.own i) σd S) Q E) : PostF Z ou m av H (ev c i σd S) Q E := by
  simp only [ev] at P
  cases q : ev c i σd S with
  | no => rw [q] at P; exact P
  | ex _ _ _ => rw [q] at P; exact P
  | ok a S1 =>
    rw [q, Pv.R.bind_ok] at P
    intro ds ha ms p H' vs E1 R1 hp hl t
    subst ha
    have hin : p ∈ av ++ (ms ++ [p]) := List.mem_append_right _ (List.mem_append_right _ (List.mem_singleton.mpr rfl))
    have R2 := R1.adopt hin hp hl t
    rw [List.append_assoc] at R2
    refine P (ms ++ [p]) H' (.ref p) E1 R2 ⟨p, ?_, rfl⟩
    rw [R1.len, ← List.append_assoc, List.getElem?_append_right (Nat.le_refl _), Nat.sub_self]; rfl
theorem se_own {e : Expr} {i : Ex} (h : SEF g N sc d c e i) : SE g N sc d c e (.own i) :=
  fun X zt ok W tk σd σ H m av S Q EX hW En R P => h X zt ok W tk σd σ H m av S Q EX hW En R (PostF.of_own P)
theorem sef_lst {es : List Expr} {xs : Exs} {p : Pos} (h : SA g N sc d c es xs) (hl : xs.len ≤ 1000) : SEF g N sc d c (.List es p) (.lst xs) := by
  intro X zt ok W tk σd σ H m av S Q EX hW En R P
  simp only [ev] at P
  refine we_of (pe_lst pa_wa) ?_
  refine h X zt ok W tk σd σ H m av S _ _ hW En R (P.intoF fun as S1 e1 ms H1 vs E1 R1 r1 => ?_)
  have P1 := P.stepF e1 E1 R1
  cases e3 : datas as with
  | none => rw [e3] at P1; exact P1.elim
  | some ds =>
    rw [e3] at P1
    exact ⟨small _ (by rw [← r1.length, evs_len xs e1]; exact hl), fun q hq => PostF.lay P1 R1 hq (datas_rep r1 e3)⟩
/-- what a new list says where it is used -/
theorem SEF.use {e : Expr} {i : Ex} (h : SEF g N sc d c e i) {X : Cx} {zt : Zt} (ok : XOk g N sc d c X zt) {W : WX} (tk : Takes X W) {σd : En} {σ : SL} {H : Hp} {m av : List Addr} {S : Sto} {Q : VK} {EX : XK} (hW : ∀ cls d H', EX cls d H' → W cls d σ H') (En : EnR (zc X zt) H m av σd σ) (R : Rel (zc X zt) zt.ou m av H S)
    (P : Post (zc X zt) zt.ou (fun H' m' av' a v => ∃ ds p vs, a = .d (.list ds) ∧ v = .ref p ∧ H' p = some (.lst vs) ∧ p ∉ av' ∧ RepAll X.K H' av' ds vs) m av H (ev c i σd S) Q EX) : we X e σ H Q := by
  refine h X zt ok W tk σd σ H m av S Q EX hW En R ?_
  cases q : ev c i σd S with
  | no => rw [q] at P; exact P
  | ex _ _ _ => rw [q] at P; exact P
  | ok a S1 =>
    rw [q] at P
    intro ds ha ms p H' vs E1 R1 hp hl t
    subst ha
    have hnew : ∀ x ∈ ms ++ [p], H x = none := E1.new
    have npm : p ∉ av ++ ms := fun z => by
      rcases List.mem_append.mp z with z | z
      · obtain ⟨u, hu⟩ := R.live p z
        rw [hnew p (List.mem_append_right _ (List.mem_singleton.mpr rfl))] at hu; cases hu
      · exact hp (List.mem_append_right _ z)
    have sub : ∀ a ∈ av ++ ms, a ∈ av ++ (ms ++ [p]) := fun a ha => by rw [← List.append_assoc]; exact List.mem_append_left _ ha
    refine P ms H' (.ref p) ⟨E1.keep, fun x hx => hnew x (List.mem_append_left _ hx)⟩ (R1.reav sub fun a ha => ?_) ⟨ds, p, vs, rfl, rfl, hl, npm, RepAll.less sub t⟩
    have := R1.sub a ha
    rw [← List.append_assoc] at this
    rcases List.mem_append.mp this with z | z
    · exact z
    · exact absurd (by rw [← List.mem_singleton.mp z]; exact ha) hp
theorem sef_repF {a n : Expr} {a' n' : Ex} {p : Pos} (ha : SEF g N sc d c a a') (hn : SE g N sc d c n n') : SEF g N sc d c (.BinOp a .Mult n p) (.repF a' n') := by
  intro X zt ok W tk σd σ H m av S Q EX hW En R P
  simp only [ev] at P
  refine we_of (pe_op op_wop pe_we pe_we) ?_
  refine ha.use ok tk hW En R (P.intoF fun x S1 e1 ms H1 v E1 R1 r1 => ?_)
  have P1 := P.stepF e1 E1 R1
  obtain ⟨ds, q, vs, rfl, rfl, hl, nq, t⟩ := r1
  refine hn X zt ok W tk σd σ H1 _ _ S1 _ _ hW (En.evo R E1) R1 (P1.intoF fun y S2 e2 ns H2 u E2 R2 r2 => ?_)
  have P2 := P1.stepF e2 E2 R2
  split at P2
  · rename_i ds' k hds
    cases hds
    split at P2
    · rename_i hk
      have hu : u = .int k := by
        have r' : Rep X.K H2 (av ++ ms ++ ns) (.int k) u := r2
        cases r'; rfl
      subst hu
      unfold repOk at hk
      simp only [Bool.and_eq_true, decide_eq_true_eq] at hk
      have t2 := RepAll.evo E2 R1.sub t
      exact wop_of op_rep ⟨q, k, vs, rfl, rfl, E2.keep _ _ hl (fun z => nq (R1.sub q z)), hk.1.1, hk.1.2, by rw [← t.length]; exact hk.2, fun w hw => PostF.lay P2 R2 hw t2.flat⟩
    · exact P2.elim
  · exact P2.elim
theorem sef_catF {a b : Expr} {a' b' : Ex} {p : Pos} (ha : SE g N sc d c a a') (hb : SEF g N sc d c b b') : SEF g N sc d c (.BinOp a .Add b p) (.catF a' b') := by
  intro X zt ok W tk σd σ H m av S Q EX hW En R P
  simp only [ev] at P
  refine we_of (pe_op op_wop pe_we pe_we) ?_
  refine ha X zt ok W tk σd σ H m av S _ _ hW En R (P.intoF fun x S1 e1 ms H1 v E1 R1 r1 => ?_)
  have P1 := P.stepF e1 E1 R1
  refine hb.use ok tk hW (En.evo R E1) R1 (P1.intoF fun y S2 e2 ns H2 u E2 R2 r2 => ?_)
  have P2 := P1.stepF e2 E2 R2
  obtain ⟨es, q, ws, rfl, rfl, hl, nq, t⟩ := r2
  split at P2
  · rename_i r es' hx hy
    cases hy
    split at P2
    · rename_i ds hds
      split at P2
      · rename_i hz
        obtain ⟨b, h1, rfl⟩ := RepA.evo R1 E2 r1
        obtain ⟨b', vs, h2, h3, h4⟩ := R2.at_ hds
        rw [h1] at h2; cases h2
        exact wop_of op_cat ⟨b, q, vs, ws, rfl, rfl, h3, hl, by rw [← h4.length, ← t.length]; exact hz, fun w hw => PostF.lay P2 R2 hw (h4.append t)⟩
      · exact P2.elim
    · exact P2.elim
  · exact P2.elim
end
end Pv
set_option Elab.async false
set_option maxRecDepth 100000
set_option linter.unusedVariables false
/-! Pv8i: what is walked. -/
namespace Pv
open PySem PySem.Spec PyProof.Rows L2 RZ
theorem itemsOf_cases {x : PyData} {xs : List PyData} (h : itemsOf x = some xs) : x = .list xs ∨ x = .tuple xs := by
  unfold itemsOf at h
  split at h
  · simp only [Option.some.injEq] at h; subst h; exact .inl rfl
  · simp only [Option.some.injEq] at h; subst h; exact .inr rfl
  · cases h
theorem Rep.lstS {K : PySem.W.Frag} {H : Hp} {av : List Addr} {ds : List PyData} {v : V} (r : Rep K H av (.list ds) v) : ∃ a vs, v = .ref a ∧ SqL K H a vs ∧ RepAll K H av ds vs ∧ ∀ H' : Hp, (a ∉ av → ∀ o, H a = some o → H' a = some o) → SqL K H' a vs := by
  cases r with
  | lstH h n t =>
    refine ⟨_, _, rfl, .inl h, t, fun H' k => ?_⟩
    rcases h with h | ⟨o, h⟩
    · exact .inl (.inl (k n _ h))
    · exact .inl (.inr ⟨o, k n _ h⟩)
  | lstK h t => exact ⟨_, _, rfl, .inr h, t, fun H' k => .inr h⟩
theorem Rep.tupS {K : PySem.W.Frag} {H : Hp} {av : List Addr} {ds : List PyData} {v : V} (r : Rep K H av (.tuple ds) v) : ∃ a vs, v = .ref a ∧ SqT K H a vs ∧ RepAll K H av ds vs ∧ ∀ H' : Hp, (a ∉ av → ∀ o, H a = some o → H' a = some o) → SqT K H' a vs := by
  cases r with
  | tupH h n t =>
    refine ⟨_, _, rfl, .inl h, t, fun H' k => ?_⟩
    rcases h with h | ⟨o, h⟩
    · exact .inl (.inl (k n _ h))
    · exact .inl (.inr ⟨o, k n _ h⟩)
  | tupK h t => exact ⟨_, _, rfl, .inr h, t, fun H' k => .inr h⟩
/-- the weakest reading of what is walked -/
def wI (X : Cx) (tg it : Expr) : TI := fun σ H R => ∀ pins s, Inv X pins σ H s → wpAny (model X.prog X.w) X.A (eval it X.env) (fun v s1 => wpAny (model X.prog X.w) X.A (pyIter v) (PIE X pins σ tg R) X.xe s1) X.xe s
theorem pi_wI {X : Cx} {tg it : Expr} : PI X tg it (wI X tg it) := ⟨fun pins s σ H R I h => h pins s I⟩
theorem wI_of {X : Cx} {tg it : Expr} {w : TI} (h : PI X tg it w) {σ : SL} {H : Hp} {R : It → Hp → Prop} (q : w σ H R) : wI X tg it σ H R := fun pins s I => h.run pins s σ H R I q
/-- what was not written stands -/
def Kept (H1 : Hp) (av1 : List Addr) (H' : Hp) : Prop := ∀ a, a ∉ av1 → ∀ o, H1 a = some o → H' a = some o
/-- an item as it comes: as it lay, or a new pair -/
def ItemR (K : PySem.W.Frag) (H1 : Hp) (av1 : List Addr) (x : PyData) (v : V) (H' H'' : Hp) : Prop :=
  (H'' = H' ∧ Rep K H1 av1 x v) ∨ ∃ T x1 x2 v1 v2, x = .tuple [x1, x2] ∧ v = .ref T ∧ H' T = none ∧ H'' = upd H' T (.tup [v1, v2]) ∧ Rep K H1 av1 x1 v1 ∧ Rep K H1 av1 x2 v2
structure Goes (K : PySem.W.Frag) (J : It) (xs : List PyData) (H1 : Hp) (av1 : List Addr) : Prop where
  sz : xs.length ≤ sizeLine
  walk : Walk J xs.length (Kept H1 av1) fun i H' v H'' => ∃ x, xs[i]? = some x ∧ ItemR K H1 av1 x v H' H''
section
variable {K : PySem.W.Frag} {H1 : Hp} {av1 : List Addr}
theorem goes_list {a : Addr} {xs : List PyData} {vs : List V} (hz : vs.length ≤ sizeLine) (t : RepAll K H1 av1 xs vs) (kp : ∀ H' : Hp, (a ∉ av1 → ∀ o, H1 a = some o → H' a = some o) → SqL K H' a vs) : Goes K (Itl K a) xs H1 av1 := by
  refine ⟨by rw [t.length]; exact hz, ?_⟩
  rw [t.length]
  refine (walk_list (K := K) (a := a) (xs := vs)).mono (fun H' k => kp H' (k a)) fun i H' v H'' hi k y => ?_
  obtain ⟨e, hv⟩ := y
  obtain ⟨x, hx, r⟩ := t.get' hv
  exact ⟨x, hx, .inl ⟨e, r⟩⟩
theorem goes_tup {a : Addr} {xs : List PyData} {vs : List V} (hz : vs.length ≤ sizeLine) (t : RepAll K H1 av1 xs vs) (kp : ∀ H' : Hp, (a ∉ av1 → ∀ o, H1 a = some o → H' a = some o) → SqT K H' a vs) : Goes K (Itt K a) xs H1 av1 := by
  refine ⟨by rw [t.length]; exact hz, ?_⟩
  rw [t.length]
  refine (walk_tup (K := K) (a := a) (xs := vs)).mono (fun H' k => kp H' (k a)) fun i H' v H'' hi k y => ?_
  obtain ⟨e, hv⟩ := y
  obtain ⟨x, hx, r⟩ := t.get' hv
  exact ⟨x, hx, .inl ⟨e, r⟩⟩
theorem rng_len {n : Nat} {f : Nat → PyData} : ((List.range n).map f).length = n := by rw [List.length_map, List.length_range]
theorem rng_get {n i : Nat} {f : Nat → PyData} (h : i < n) : ((List.range n).map f)[i]? = some (f i) := by rw [List.getElem?_map, List.getElem?_range h]; rfl
theorem goes_range {lo : Int} {n : Nat} (hn : n ≤ sizeLine) : Goes K (L2.Itr lo n) ((List.range n).map fun i : Nat => PyData.int (lo + (i : Int))) H1 av1 := by
  refine ⟨by rw [rng_len]; exact hn, ?_⟩
  rw [rng_len]
  refine walk_range.mono (fun _ _ => trivial) fun i H' v H'' hi k y => ?_
  obtain ⟨e, rfl⟩ := y
  exact ⟨_, rng_get hi, .inl ⟨e, .int _⟩⟩
theorem goes_rangeC {lo c : Int} {n : Nat} (hn : n ≤ sizeLine) : Goes K (Itc lo c n) ((List.range n).map fun i : Nat => PyData.int (lo + (i : Nat) * c)) H1 av1 := by
  refine ⟨by rw [rng_len]; exact hn, ?_⟩
  rw [rng_len]
  refine walk_rangeC.mono (fun _ _ => trivial) fun i H' v H'' hi k y => ?_
  obtain ⟨e, rfl⟩ := y
  exact ⟨_, rng_get hi, .inl ⟨e, .int _⟩⟩
theorem zipD_len {xs ys : List PyData} : (zipD xs ys).length = min xs.length ys.length := by unfold zipD; rw [List.length_map, List.length_zip]
theorem zipD_get {xs ys : List PyData} {i : Nat} {x y : PyData} (h1 : xs[i]? = some x) (h2 : ys[i]? = some y) : (zipD xs ys)[i]? = some (.tuple [x, y]) := by
  unfold zipD
  rw [List.getElem?_map, show (xs.zip ys)[i]? = some (x, y) from List.getElem?_zip_eq_some.mpr ⟨h1, h2⟩]; rfl
theorem goes_pair {J : It} {n : Nat} {G : Hp → Prop} {xs ys : List PyData} {f g : Nat → Option V} (w : Walk J n G (YPair f g)) (hn : n = min xs.length ys.length) (hz : n ≤ sizeLine) (hG : ∀ H', Kept H1 av1 H' → G H')
    (hf : ∀ i v, i < n → f i = some v → ∃ x, xs[i]? = some x ∧ Rep K H1 av1 x v) (hg : ∀ i v, i < n → g i = some v → ∃ y, ys[i]? = some y ∧ Rep K H1 av1 y v) : Goes K J (zipD xs ys) H1 av1 := by
  refine ⟨by rw [zipD_len, ← hn]; exact hz, ?_⟩
  rw [zipD_len, ← hn]
  refine w.mono hG fun i H' v H'' hi k y => ?_
  obtain ⟨T, a, b, e1, e2, e3, e4, e5⟩ := y
  obtain ⟨x, hx, rx⟩ := hf i a hi e4
  obtain ⟨y, hy, ry⟩ := hg i b hi e5
  exact ⟨_, zipD_get hx hy, .inr ⟨T, x, y, a, b, rfl, e1, e2, e3, rx, ry⟩⟩
theorem walk_zipT {a b : Addr} {xs ys : List V} {n : Nat} (hn : n = min xs.length ys.length) : Walk (ItzT K a b) n (fun H => SqT K H a xs ∧ SqT K H b ys) (YPair (fun i => xs[i]?) (fun i => ys[i]?)) := by
  subst hn
  refine ⟨fun i _ hi q => ?_, fun _ q => ⟨xs, ys, q.1, q.2, by omega⟩, fun i H v H' _ q y => ?_⟩
  · have h1 : i < xs.length := by omega
    have h2 : i < ys.length := by omega
    exact ⟨xs, ys, xs[i], ys[i], q.1, q.2, by simp [h1], by simp [h2]⟩
  · obtain ⟨T, x, z, h1, h2, h3, h4, h5⟩ := y
    exact ⟨T, x, z, h1, h2, h3, h4 xs q.1, h5 ys q.2⟩
end
section
variable (g : Stat) (N : List Str) (sc : Scope) (d : Nat) (c : Cfg)
abbrev PostI (Z : Kc) (ou : Option (En × SL)) (m av : List Addr) (H : Hp) (r : R (List PyData)) (Q : It → Hp → Prop) (E : XK) : Prop := Post Z ou (fun H' _ av' xs J => Goes Z.K J xs H' av') m av H r Q E
def SI (tg it : Expr) (i : Itr) : Prop := ∀ (X : Cx) (zt : Zt), XOk g N sc d c X zt → ∀ (W : WX), Takes X W → ∀ (σd : En) (σ : SL) (H : Hp) (m av : List Addr) (S : Sto) (Q : It → Hp → Prop) (E : XK), (∀ cls d H', E cls d H' → W cls d σ H') → EnR (zc X zt) H m av σd σ → Rel (zc X zt) zt.ou m av H S → PostI (zc X zt) zt.ou m av H (evI c i σd S) Q E → wI X tg it σ H Q
end
/-- a list's or a tuple's length is in bounds -/
def iSeq (X : Cx) (it : Expr) : TI := fun σ H R => we X it σ H fun x H1 =>
  (∃ a xs, x = .ref a ∧ SqL X.K H1 a xs ∧ (xs.length ≤ sizeLine → R (Itl X.K a) H1)) ∨ (∃ a xs, x = .ref a ∧ SqT X.K H1 a xs ∧ (xs.length ≤ sizeLine → R (Itt X.K a) H1))
theorem pi_seq {X : Cx} {tg it : Expr} : PI X tg it (iSeq X it) := by
  refine ⟨fun pins s σ H R I h => ?_⟩
  refine thn (h pins s I) fun v s1 ⟨x, H1, I1, r1, q1⟩ => ?_
  rcases q1 with ⟨a, xs, e, hq, q⟩ | ⟨a, xs, e, hq, q⟩
  · subst e
    cases r1
    obtain ⟨its, rv, p, hz⟩ := I1.list hq
    refine wpAny_pyIter_list p.isList ?_
    refine ⟨s1.heap.objs.size, [s1.heap.objs.size], _, _, H1, rfl, I1.kept (t' := s1.toks) fun b o e => Heap.get?_push_of_some _ e, turn_list a _, ⟨_, Heap.get?_push_size _ rfl, rfl, rfl⟩, fun b hb => ?_, q hz⟩
    have e : b = s1.heap.objs.size := by simpa using hb
    subst e
    exact I1.fpOk (Nat.le_refl _) (I1.hok.fresh (Nat.le_refl _))
  · subst e
    cases r1
    obtain ⟨its, rv, p, hz⟩ := I1.tuple hq
    refine wpAny_pyIter_tuple (show s1.heap.IsTuple a its.toArray from p) ?_
    refine ⟨s1.heap.objs.size, [s1.heap.objs.size], _, _, H1, rfl, I1.kept (t' := s1.toks) fun b o e => Heap.get?_push_of_some _ e, turn_tuple a _, ⟨_, Heap.get?_push_size _ rfl, rfl, rfl⟩, fun b hb => ?_, q hz⟩
    have e : b = s1.heap.objs.size := by simpa using hb
    subst e
    exact I1.fpOk (Nat.le_refl _) (I1.hok.fresh (Nat.le_refl _))
section
variable {g : Stat} {N : List Str} {sc : Scope} {d : Nat} {c : Cfg}
theorem si_e {tg it : Expr} {i : Ex} (h : SE g N sc d c it i) : SI g N sc d c tg it (.e i) := by
  intro X zt ok W tk σd σ H m av S Q EX hW En R P
  simp only [evI] at P
  refine wI_of pi_seq ?_
  refine h X zt ok W tk σd σ H m av S _ _ hW En R (P.into fun x S1 e1 ms H1 v E1 R1 r1 => ?_)
  have P1 := P.step e1 E1 R1
  cases x with
  | d x =>
    obtain ⟨xs, w, P2⟩ := P1.some
    rcases itemsOf_cases w with rfl | rfl
    · obtain ⟨a, vs, rfl, hq, tr, kp⟩ := Rep.lstS r1
      exact .inl ⟨a, vs, rfl, hq, fun hz => P2.now R1 (goes_list hz tr kp)⟩
    · obtain ⟨a, vs, rfl, hq, tr, kp⟩ := Rep.tupS r1
      exact .inr ⟨a, vs, rfl, hq, fun hz => P2.now R1 (goes_tup hz tr kp)⟩
  | _ => exact P1.elim
theorem reps1 {Z : Kc} {H : Hp} {m av : List Addr} {a : Int} {vs : List V} (r : RepAs Z H m av [.d (.int a)] vs) : vs = [.int a] := by
  cases r with
  | cons h t =>
    cases t
    have h' : Rep Z.K H av (.int a) _ := h
    cases h'; rfl
theorem si_rng1 {tg a : Expr} {a' : Ex} {p p2 : Pos} (hl : ("range" : Str) ∈ g.bl) (h : Gb sc "range") (hs : SA g N sc d c [a] (.cons a' .nil)) (sa : ∀ env, starEach [a] env = [(false, eval a env)]) : SI g N sc d c tg (.Call (.Name "range" p) [a] [] p2) (.rng (.cons a' .nil)) := by
  intro X zt ok W tk σd σ H m av S Q EX hW En R P
  simp only [evI] at P
  refine wI_of (pi_range1 (ok.gl h) (ok.bl _ hl) pa_wa (sa _)) ?_
  refine hs X zt ok W tk σd σ H m av S _ _ hW En R (P.into fun as S1 e1 ms H1 vs E1 R1 r1 => ?_)
  have P1 := P.step e1 E1 R1
  obtain ⟨xs, w, P2⟩ := P1.some
  unfold rngOf at w
  split at w
  · split at w
    · rename_i hn
      simp only [Option.some.injEq] at w
      subst w
      have e := reps1 r1
      subst e
      refine ⟨_, rfl, by omega, by omega, P2.now R1 ?_⟩
      have hg := goes_range (K := X.K) (H1 := H1) (av1 := av ++ ms) (lo := 0) (n := (‹Int›).toNat) (by rw [sizeLine_eq]; omega)
      simp only [Int.zero_add] at hg
      exact hg
    · cases w
  · have := evs_len _ e1
    simp [Exs.len] at this
  · have := evs_len _ e1
    simp [Exs.len] at this
  · cases w
theorem si_rng2 {tg a b : Expr} {a' b' : Ex} {p p2 : Pos} (hl : ("range" : Str) ∈ g.bl) (h : Gb sc "range") (hs : SA g N sc d c [a, b] (.cons a' (.cons b' .nil))) (sa : ∀ env, starEach [a, b] env = [(false, eval a env), (false, eval b env)]) (sb : ∀ env, starEach [b] env = [(false, eval b env)]) : SI g N sc d c tg (.Call (.Name "range" p) [a, b] [] p2) (.rng (.cons a' (.cons b' .nil))) := by
  intro X zt ok W tk σd σ H m av S Q EX hW En R P
  simp only [evI] at P
  refine wI_of (pi_range2 (ok.gl h) (ok.bl _ hl) pa_wa (sa _) (sb _)) ?_
  refine hs X zt ok W tk σd σ H m av S _ _ hW En R (P.into fun as S1 e1 ms H1 vs E1 R1 r1 => ?_)
  have P1 := P.step e1 E1 R1
  obtain ⟨xs, w, P2⟩ := P1.some
  unfold rngOf at w
  split at w
  · have := evs_len _ e1
    simp [Exs.len] at this
  · rename_i i j
    split at w
    · rename_i hn
      simp only [Option.some.injEq] at w
      subst w
      cases r1 with
      | cons ra t =>
        have e1 := reps1 t
        subst e1
        have ra' : Rep X.K H1 (av ++ ms) (.int i) _ := ra
        cases ra'
        exact ⟨i, j, rfl, ⟨by omega, by omega, by omega, by omega⟩, P2.now R1 (goes_range (by rw [sizeLine_eq]; omega))⟩
    · cases w
  · have := evs_len _ e1
    simp [Exs.len] at this
  · cases w
theorem si_rng3 {tg a b e : Expr} {a' b' e' : Ex} {p p2 : Pos} (hl : ("range" : Str) ∈ g.bl) (h : Gb sc "range") (hs : SA g N sc d c [a, b, e] (.cons a' (.cons b' (.cons e' .nil)))) (sa : ∀ env, starEach [a, b, e] env = (false, eval a env) :: starEach [b, e] env) (sb : ∀ pos env, (backTo pos (starEach [b, e] env)).any (·.1) = false) : SI g N sc d c tg (.Call (.Name "range" p) [a, b, e] [] p2) (.rng (.cons a' (.cons b' (.cons e' .nil)))) := by
  intro X zt ok W tk σd σ H m av S Q EX hW En R P
  simp only [evI] at P
  refine wI_of (pi_range3 (ok.gl h) (ok.bl _ hl) pa_wa (sa _) (sb _ _)) ?_
  refine hs X zt ok W tk σd σ H m av S _ _ hW En R (P.into fun as S1 e1 ms H1 vs E1 R1 r1 => ?_)
  have P1 := P.step e1 E1 R1
  obtain ⟨xs, w, P2⟩ := P1.some
  unfold rngOf at w
  split at w
  · have := evs_len _ e1
    simp [Exs.len] at this
  · have := evs_len _ e1
    simp [Exs.len] at this
  · rename_i i j k
    split at w
    · rename_i hn
      simp only [Option.some.injEq] at w
      subst w
      cases r1 with
      | cons ra t =>
        cases t with
        | cons rb t =>
          have e1 := reps1 t
          subst e1
          have ra' : Rep X.K H1 (av ++ ms) (.int i) _ := ra
          have rb' : Rep X.K H1 (av ++ ms) (.int j) _ := rb
          cases ra'
          cases rb'
          obtain ⟨h1, h2, rfl⟩ := hn
          refine ⟨i, j, -1, (i - j).toNat, rfl, RgC.neg (by omega) (by omega) (by omega) (by omega), P2.now R1 ?_⟩
          have hg := goes_rangeC (K := X.K) (H1 := H1) (av1 := av ++ ms) (lo := i) (c := -1) (n := (i - j).toNat) (by rw [sizeLine_eq]; omega)
          have e2 : (fun k : Nat => PyData.int (i + (k : Nat) * (-1))) = fun k : Nat => PyData.int (i - (k : Int)) := by
            funext k
            congr 1
            omega
          rw [e2] at hg
          exact hg
    · cases w
  · cases w
theorem si_zip {es : List Expr} {kk : Nat} {tp : Pos} {a b : Expr} {a' b' : Ex} {p p2 : Pos} (hl : ("zip" : Str) ∈ g.bl) (h : Gb sc "zip") (ha : SE g N sc d c a a') (hb : SE g N sc d c b b') (sa : ∀ es env, starEach (a :: es) env = (false, eval a env) :: starEach es env) (sb : ∀ es env, starEach (b :: es) env = (false, eval b env) :: starEach es env) :
    SI g N sc d c (.Tuple es kk tp) (.Call (.Name "zip" p) [a, b] [] p2) (.zip a' b') := by
  intro X zt ok W tk σd σ H m av S Q EX hW En R P
  simp only [evI] at P
  refine wI_of (pi_zipA (ok.gl h) (ok.bl _ hl) (pa_cons pe_we (pa_cons pe_we pa_nil (sb _ _)) (sa _ _)) (sa _ _) (by rw [sb]; rfl)) ?_
  refine ha X zt ok W tk σd σ H m av S _ _ hW En R (P.into fun x S1 e1 ms H1 v E1 R1 r1 => ?_)
  have P1 := P.step e1 E1 R1
  refine hb X zt ok W tk σd σ H1 _ _ S1 _ _ hW (En.evo R E1) R1 (P1.into fun y S2 e2 ns H2 u E2 R2 r2 => ?_)
  have P2 := P1.step e2 E2 R2
  split at P2
  · rename_i x y
    obtain ⟨xs, w, P3⟩ := P2.some
    have rx : Rep X.K H2 (av ++ ms ++ ns) x v := Rep.evo E2 R1.sub r1
    have ry : Rep X.K H2 (av ++ ms ++ ns) y u := r2
    have bound : ∀ {xs ys : List PyData}, xs.length ≤ sizeLine → min xs.length ys.length ≤ sizeLine := fun h => by omega
    unfold zipOf at w
    split at w
    · split at w
      · rename_i hz
        simp only [Option.some.injEq] at w
        subst w
        obtain ⟨p, vs, rfl, hq, tr, kp⟩ := Rep.lstS rx
        obtain ⟨q, ws, rfl, hq2, tr2, kp2⟩ := Rep.lstS ry
        exact ⟨p, q, vs, ws, rfl, .inl ⟨hq, hq2, P3.now R2 (goes_pair (walk_zip rfl) (by rw [tr.length, tr2.length]) (by rw [← tr.length, ← tr2.length]; omega) (fun H' k => ⟨kp H' (k p), kp2 H' (k q)⟩) (fun i v _ h => tr.get' h) fun i v _ h => tr2.get' h)⟩⟩
      · cases w
    · split at w
      · rename_i hz
        simp only [Option.some.injEq] at w
        subst w
        obtain ⟨p, vs, rfl, hq, tr, kp⟩ := Rep.tupS rx
        obtain ⟨q, ws, rfl, hq2, tr2, kp2⟩ := Rep.tupS ry
        exact ⟨p, q, vs, ws, rfl, .inr ⟨hq, hq2, P3.now R2 (goes_pair (walk_zipT rfl) (by rw [tr.length, tr2.length]) (by rw [← tr.length, ← tr2.length]; omega) (fun H' k => ⟨kp H' (k p), kp2 H' (k q)⟩) (fun i v _ h => tr.get' h) fun i v _ h => tr2.get' h)⟩⟩
      · cases w
    · cases w
  · exact P2.elim
theorem si_enum {es : List Expr} {kk : Nat} {tp : Pos} {a : Expr} {a' : Ex} {p p2 : Pos} (hl : ("enumerate" : Str) ∈ g.bl) (h : Gb sc "enumerate") (ha : SE g N sc d c a a') (sa : ∀ es env, starEach (a :: es) env = (false, eval a env) :: starEach es env) :
    SI g N sc d c (.Tuple es kk tp) (.Call (.Name "enumerate" p) [a] [] p2) (.enum a') := by
  intro X zt ok W tk σd σ H m av S Q EX hW En R P
  simp only [evI] at P
  refine wI_of (pi_enumA (ok.gl h) (ok.bl _ hl) (pa_cons pe_we pa_nil (sa _ _)) (sa _ _)) ?_
  refine ha X zt ok W tk σd σ H m av S _ _ hW En R (P.into fun x S1 e1 ms H1 v E1 R1 r1 => ?_)
  have P1 := P.step e1 E1 R1
  cases x with
  | d x =>
    obtain ⟨xs, w, P3⟩ := P1.some
    unfold enumOf at w
    split at w
    · split at w
      · rename_i ys hz
        simp only [Option.some.injEq] at w
        subst w
        obtain ⟨p, vs, rfl, hq, tr, kp⟩ := Rep.lstS r1
        refine ⟨p, vs, rfl, .inl ⟨hq, P3.now R1 (goes_pair (walk_enum (K := X.K) (a := p) (xs := vs)) (by unfold rngD; rw [rng_len, tr.length]; omega) (by rw [← tr.length]; exact hz) (fun H' k => kp H' (k p)) (fun i v hi h => ?_) fun i v _ h => tr.get' h)⟩⟩
        simp only [Option.some.injEq] at h
        subst h
        exact ⟨_, rng_get (by rw [tr.length]; exact hi), .int _⟩
      · cases w
    · split at w
      · rename_i ys hz
        simp only [Option.some.injEq] at w
        subst w
        obtain ⟨p, vs, rfl, hq, tr, kp⟩ := Rep.tupS r1
        refine ⟨p, vs, rfl, .inr ⟨hq, P3.now R1 (goes_pair (walk_enumT (K := X.K) (a := p) (xs := vs)) (by unfold rngD; rw [rng_len, tr.length]; omega) (by rw [← tr.length]; exact hz) (fun H' k => kp H' (k p)) (fun i v hi h => ?_) fun i v _ h => tr.get' h)⟩⟩
        simp only [Option.some.injEq] at h
        subst h
        exact ⟨_, rng_get (by rw [tr.length]; exact hi), .int _⟩
      · cases w
    · cases w
  | _ => exact P1.elim
end
end Pv
set_option Elab.async false
set_option maxRecDepth 100000
set_option linter.unusedVariables false
/-! Pv8: comprehensions. -/
namespace Pv
open PySem PySem.Spec PyProof.Rows L2
/-! ### targets -/
def gNames : List Nat → TGs
  | [] => gNil
  | i :: is => gCons (gName i) (gNames is)
def tgR (K : PySem.W.Frag) : Tg → TG
  | .n i => gName i
  | .t is => gTup K is.length (gNames is)
theorem gNames_ok : ∀ {is : List Nat} {vs : List V} {σ : SL} {H : Hp} {Q : SL → Hp → Prop}, is.length = vs.length → Q ((is.zip vs).foldl (fun σ p => σ.set p.1 (some p.2)) σ) H → gNames is vs σ H Q
  | [], [], _, _, _, _, q => ⟨rfl, q⟩
  | [], _ :: _, _, _, _, h, _ => by simp at h
  | _ :: _, [], _, _, _, h, _ => by simp at h
  | i :: is, v :: vs, σ, H, Q, h, q => ⟨v, vs, rfl, gNames_ok (by simpa using h) q⟩
section
variable {Z : Kc} {H : Hp} {m av : List Addr}
/-- a target takes data -/
theorem tg_ok {t : Tg} {x : PyData} {v : V} {σd σd' : En} {σ : SL} {Q : SL → Hp → Prop} (En : EnR Z H m av σd σ) (r : Rep Z.K H av x v) (e : setTg t x σd = some σd') (q : ∀ σ', EnR Z H m av σd' σ' → (∀ own : List Nat, (slotsOf t).all (fun i => decide (i ∈ own)) = true → L2.wipe σ' own = L2.wipe σ own) → Q σ' H) :
    tgR Z.K t v σ H Q := by
  have ws : ∀ (own : List Nat) (i : Nat) (σ : SL) (o : Option V), i ∈ own → L2.wipe (σ.set i o) own = L2.wipe σ own := by
    intro own
    induction own with
    | nil => intro i σ o h; cases h
    | cons a own ih =>
      intro i σ o h
      unfold L2.wipe
      by_cases hi : i ∈ own
      · rw [ih i σ o hi]
      · have e : i = a := by
          rcases List.mem_cons.mp h with h | h
          · exact h
          · exact absurd h hi
        subst e
        have comm : ∀ (own : List Nat) (σ : SL), i ∉ own → L2.wipe (σ.set i o) own = (L2.wipe σ own).set i o := by
          intro own
          induction own with
          | nil => intro σ _; rfl
          | cons b own ih2 =>
            intro σ hn
            unfold L2.wipe
            rw [ih2 σ (fun z => hn (List.mem_cons_of_mem _ z)), List.set_comm]
            intro z
            exact hn (by rw [z]; exact List.mem_cons_self)
        rw [comm own σ hi, List.set_set]
  cases t with
  | n i =>
    simp only [setTg, Option.some.injEq] at e
    subst e
    refine q _ (EnR.set (x := .d x) En i r) fun own h => ws own i σ _ ?_
    simpa [slotsOf] using h
  | t is =>
    cases x with
    | tuple xs =>
      simp only [setTg] at e
      split at e
      · rename_i hl
        obtain ⟨a, vs, rfl, h, t⟩ := (show RdR Z.K H av (.tuple xs) v from .inl r).tup
        obtain ⟨σ', e1, e2⟩ := enr_setAll En t e
        refine ⟨a, vs, rfl, h, ?_, gNames_ok (by rw [hl, t.length]) ?_⟩
        · rw [← t.length, hl]
        · rw [← e2]
          refine q _ e1 fun own h => ?_
          rw [e2]
          have hal : ∀ i ∈ is, i ∈ own := by simpa [slotsOf] using h
          clear e e1 e2 h hl t r
          have key : ∀ (is : List Nat) (vs : List V) (σ : SL), (∀ i ∈ is, i ∈ own) → L2.wipe ((is.zip vs).foldl (fun σ p => σ.set p.1 (some p.2)) σ) own = L2.wipe σ own := by
            intro is
            induction is with
            | nil => intro vs σ _; rfl
            | cons i is ih =>
              intro vs σ hh
              cases vs with
              | nil => rfl
              | cons v vs =>
                simp only [List.zip_cons_cons, List.foldl_cons]
                rw [ih vs _ (fun j hj => hh j (List.mem_cons_of_mem _ hj)), ws own i σ _ (hh i List.mem_cons_self)]
          exact key is vs σ hal
      · cases e
    | _ => simp [setTg] at e
end
section
variable {g : Stat} {N : List Str} {sc : Scope} {d : Nat} {c : Cfg}
theorem pg_names {X : Cx} {scope : Scope} (hN : X.N.Nodup) (eN : X.N = N) (esc : X.env.scope = sc) (hf : ∀ x, scope.names.lookup x = some .cell → X.fn x = true) : ∀ {es : List Expr} {is : List Nat}, TrTs N sc scope es is → PGs X es (gNames is) ∧ (assignEach es X.env).length = is.length ∧ (assignEach es X.env).findIdx? (·.1) = none
  | [], _, h => by cases h; exact ⟨pgs_nil, rfl, rfl⟩
  | _ :: es, _, h => by
    cases h with
    | @cons x p _ i is h l f r =>
      obtain ⟨h1, h2, h3⟩ := pg_names hN eN esc hf r
      refine ⟨pgs_cons (pg_name hN (by rw [eN]; exact h) (by rw [esc]; exact l) (f.elim (fun z => .inl (hf _ z)) fun z => .inr (by rw [esc]; exact z))) h1 (by rfl), ?_, ?_⟩
      · show (assignEach es X.env).length + 1 = _
        rw [h2]; rfl
      · have e : assignEach (.Name x p :: es) X.env = (false, assign (.Name x p) X.env) :: assignEach es X.env := rfl
        rw [e, List.findIdx?_cons, h3]
        rfl
theorem pg_tg {X : Cx} {scope : Scope} {e : Expr} {t : Tg} (hc : X.calm = true) (hN : X.N.Nodup) (eN : X.N = N) (esc : X.env.scope = sc) (hf : ∀ x, scope.names.lookup x = some .cell → X.fn x = true) (h : TrT N sc scope e t) : PG X e (tgR X.K t) := by
  cases h with
  | n h l f => exact pg_name hN (by rw [eN]; exact h) (by rw [esc]; exact l) (f.elim (fun z => .inl (hf _ z)) fun z => .inr (by rw [esc]; exact z))
  | t h =>
    obtain ⟨h1, h2, h3⟩ := pg_names hN eN esc hf h
    exact pg_tup hc h1 h2 h3
abbrev blkX (X : Cx) (scope : Scope) (s : Shared) (H : Hp) (C : Addr) (cl : List (Str × Addr)) (fp : List Addr) : Cx := X.blk s H scope (compEnvC scope cl C X.env) fp
theorem XOk.blk {X : Cx} {zt : Zt} (ok : XOk g N sc d c X zt) (scope : Scope) (s : Shared) (H : Hp) (C : Addr) (cl : List (Str × Addr)) (fp : List Addr) : XOk g N (relS scope sc) d c.blk (blkX X scope s H C cl fp) zt :=
  ⟨ok.N_, by show relS scope X.env.scope = _; rw [ok.sc_], ok.nd, ok.room, ok.gds, ok.calm, ok.glob, ok.bl, ok.im, ok.calls, ok.exc, ok.lm, ok.dd,
    fun pins σd σ H s m av S I En R => ⟨zt.ou, R, lamOk_no, fun _ _ _ _ h => h⟩, fun j hj => nomatch hj⟩
def weB (X : Cx) (scope : Scope) (e : Expr) : TE := fun σ H Q => ∀ s0 H0 C cl fp, we (blkX X scope s0 H0 C cl fp) e σ H Q
def wtB (X : Cx) (scope : Scope) (e : Expr) : TT := fun σ H Q => ∀ s0 H0 C cl fp, wt (blkX X scope s0 H0 C cl fp) e σ H Q
def wcB (X : Cx) (scope : Scope) : List Expr → TT
  | [] => tYes
  | e :: _ => wtB X scope e
theorem Evo.trans2 {M m' : List Addr} {H H1 H2 : Hp} {ms ns : List Addr} (e : Evo M H ms H1) (f : Evo m' H1 ns H2) (hm : ∀ a ∈ m', a ∈ M ∨ a ∈ ms) (live : ∀ a ∈ M, ∃ o, H1 a = some o) : Evo M H (ms ++ ns) H2 where
  keep := fun a o h n => f.keep a o (e.keep a o h n) fun z => (hm a z).elim n fun z => by rw [e.new a z] at h; cases h
  new := fun p hp => (List.mem_append.mp hp).elim (e.new p) fun z => by
    have h1 := f.new p z
    cases q : H p with
    | none => rfl
    | some o =>
      by_cases hM : p ∈ M
      · obtain ⟨u, hu⟩ := live p hM
        rw [hu] at h1; cases h1
      · rw [e.keep p o q hM] at h1; cases h1
mutual
theorem RepA.evoM {Z : Kc} {H H' : Hp} {M m av ns : List Addr} (e : Evo M H ns H') (sub : ∀ a ∈ M, a ∈ av) : ∀ {x : A} {v : V}, RepA Z H m av x v → RepA Z H' m (av ++ ns) x v
  | .d _, _, r => Rep.evo e sub r
  | .ref i, _, r => r
  | .tup as, _, r => by
    obtain ⟨a, vs, e1, h, n, t⟩ := r
    obtain ⟨h1, h2⟩ := e.at_ h fun z => n (sub _ z)
    exact ⟨a, vs, e1, h1, not_app n h2, RepL.evoM e sub t⟩
  | .exc c p, _, r => by
    obtain ⟨a, C, dd, fs, w, e1, e2, h, n, h3, n3, e4, t⟩ := r
    obtain ⟨h1, h2⟩ := e.at_ h fun z => n (sub _ z)
    obtain ⟨h5, h6⟩ := e.at_ h3 fun z => n3 (sub _ z)
    exact ⟨a, C, dd, fs, w, e1, e2, h1, not_app n h2, h5, not_app n3 h6, e4, Rep.evo e sub t⟩
  | .lam k, _, r => by
    obtain ⟨a, c', L, e1, e2, h, n, h3, n3⟩ := r
    obtain ⟨h1, h2⟩ := e.at_ h fun z => n (sub _ z)
    obtain ⟨h5, h6⟩ := e.at_ h3 fun z => n3 (sub _ z)
    exact ⟨a, c', L, e1, e2, h1, not_app n h2, h5, not_app n3 h6⟩
theorem RepL.evoM {Z : Kc} {H H' : Hp} {M m av ns : List Addr} (e : Evo M H ns H') (sub : ∀ a ∈ M, a ∈ av) : ∀ {xs : List A} {vs : List V}, RepL Z H m av xs vs → RepL Z H' m (av ++ ns) xs vs
  | [], [], _ => trivial
  | [], _ :: _, r => r.elim
  | _ :: _, [], r => r.elim
  | _ :: _, _ :: _, r => ⟨RepA.evoM e sub r.1, RepL.evoM e sub r.2⟩
end
theorem EnR.evo2 {Z : Kc} {H H' : Hp} {M m av ms ns : List Addr} (e : Evo M H ns H') (sub : ∀ a ∈ M, a ∈ av) {σd : En} {σ : SL} (r : EnR Z H m av σd σ) : EnR Z H' (m ++ ms) (av ++ ns) σd σ := by
  induction r with
  | nil => exact .nil
  | val h r ih => exact .val (RepA.wide (RepA.evoM e sub h)) ih
  | emp r ih => exact .emp ih
/-- a store under a change of what is not of it -/
theorem Rel.evoM {Z : Kc} {ou : Option (En × SL)} {H H' : Hp} {M m av : List Addr} {S : Sto} (R : Rel Z ou m av H S) (e : Evo M H [] H') (sub : ∀ a ∈ M, a ∈ av) (nM : ∀ b ∈ M, ∀ c, H b ≠ some (LamX.CodeO b c)) (k : ∀ a ∈ m, ∀ u, H a = some u → H' a = some u) (lv : ∀ a ∈ av, ∃ o, H' a = some o) (nv : ∀ a ∈ av, ∀ c, H' a ≠ some (LamX.CodeO a c)) : Rel Z ou m av H' S := by
  refine ⟨R.sub, lv, nv, R.nd, R.sto.imp fun q a ha x => ?_, fun p hp => ?_⟩
  · cases q with
    | lst ds =>
      obtain ⟨vs, h1, h2⟩ := x
      have t' := RepAll.evo e sub h2
      rw [List.append_nil] at t'
      exact ⟨vs, k a ha _ h1, t'⟩
    | lsa as =>
      obtain ⟨vs, h1, h2⟩ := x
      have t' := RepL.evoM e sub h2
      rw [List.append_nil] at t'
      exact ⟨vs, k a ha _ h1, t'⟩
    | tab j =>
      obtain ⟨q, h1, h2⟩ := x
      refine ⟨q, h1, TabS.stay h2 fun b hb o ho => ?_⟩
      rcases hb with rfl | ⟨c, hc⟩
      · exact k _ ha _ ho
      · exact e.keep _ _ ho fun z => nM b z c hc
  · have := EnR.evo2 (ms := []) e sub (R.ou p hp)
    rwa [List.append_nil, List.append_nil] at this
theorem code_ne_lst {b : Addr} {c : Str} {vs : List V} {H : Hp} (h : H b = some (.lst vs)) : H b ≠ some (LamX.CodeO b c) := fun z => by
  rw [h] at z
  exact absurd (Option.some.inj z) (by unfold LamX.CodeO; exact fun q => nomatch q)

/-- the state of a comprehension at a turn -/
structure LcSt (Z : Kc) (ou : Option (En × SL)) (m av : List Addr) (D : Addr) (H0 : Hp) (f : PyData → Sto → R (Option PyData)) (xs : List PyData) (Se : Sto) (all : List PyData) (i : Nat) (H' : Hp) : Prop where
  ex : ∃ (ms : List Addr) (S' : Sto) (ys : List PyData) (acc : List V) (rest : List PyData), Evo (m ++ [D]) H0 ms H' ∧ Rel Z ou (m ++ ms) (av ++ ms) H' S' ∧ H' D = some (.lst acc) ∧ RepAll Z.K H' (av ++ ms) ys acc ∧
    lcGo f (xs.drop i) S' = .ok rest Se ∧ ys ++ rest = all ∧ ys.length ≤ i

theorem keepD_ok {r : R A} {o : Option PyData} {S : Sto} (h : keepD r = .ok o S) : ∃ y, r = .ok (.d y) S ∧ o = some y := by
  unfold keepD at h
  cases r with
  | ok a T =>
    rw [Pv.R.bind_ok] at h
    cases a with
    | d y =>
      simp only [Pv.R.ok.injEq] at h
      exact ⟨y, by rw [h.2], h.1.symm⟩
    | _ => cases h
  | ex _ _ _ => cases h
  | no => cases h
/-- one turn of a comprehension: its tests, its element -/
theorem lc_turn {X : Cx} {zt : Zt} (ok : XOk g N sc d c X zt) {scope : Scope} {e : Expr} {e' : Ex} {cs : List Expr} {cs' : Exs} (he : SE g N (relS scope sc) d c.blk e e')
    (hc : (cs = [] ∧ cs' = .nil) ∨ ∃ q q', cs = [q] ∧ cs' = .cons q' .nil ∧ ST g N (relS scope sc) d c.blk q q')
    {m av : List Addr} {D : Addr} {H0 H' : Hp} {f : PyData → Sto → R (Option PyData)} {xs : List PyData} {Se : Sto} {all : List PyData} {i : Nat} {σd' : En} {σ' : SL} {ms : List Addr} {S' S2 : Sto} {ys : List PyData} {acc : List V} {rest : List PyData} {y : Option PyData}
    (hm : ∀ a ∈ m, a ∈ av) (hD : D ∈ av) (ev0 : Evo (m ++ [D]) H0 ms H') (Rl : Rel (zc X zt) zt.ou (m ++ ms) (av ++ ms) H' S') (hDm : D ∉ m ++ ms) (hacc : H' D = some (.lst acc)) (ra : RepAll X.K H' (av ++ ms) ys acc) (En : EnR (zc X zt) H' (m ++ ms) (av ++ ms) σd' σ')
    (h1 : lcOne (evs c.blk cs' σd' S') (fun S1 => ev c.blk e' σd' S1) = .ok y S2) (h2 : lcGo f (xs.drop (i + 1)) S2 = .ok rest Se) (h3 : ys ++ consO y rest = all) (h4 : ys.length ≤ i) (h5 : i < sizeLine) :
    wcB X scope cs σ' H' fun b H3 => if b = true then weB X scope e σ' H3 fun z H4 => ∃ acc, H4 D = some (.lst acc) ∧ acc.length < sizeLine ∧ LcSt (zc X zt) zt.ou m av D H0 f xs Se all (i + 1) (upd H4 D (.lst (acc ++ [z]))) else LcSt (zc X zt) zt.ou m av D H0 f xs Se all (i + 1) H3 := by
  have live0 : ∀ {H1 : Hp} {ns : List Addr} {T : Sto}, Rel (zc X zt) zt.ou (m ++ ns) (av ++ ns) H1 T → ∀ a ∈ m ++ [D], ∃ o, H1 a = some o := fun {H1 ns T} r a ha => by
    rcases List.mem_append.mp ha with z | z
    · exact r.live a (List.mem_append_left _ (hm a z))
    · rw [List.mem_singleton.mp z]; exact r.live D (List.mem_append_left _ hD)
  -- the element, from a state behind the tests
  have elt : ∀ (ns : List Addr) (H3 : Hp) (T : Sto), Evo (m ++ ms) H' ns H3 → Rel (zc X zt) zt.ou ((m ++ ms) ++ ns) ((av ++ ms) ++ ns) H3 T → keepD (ev c.blk e' σd' T) = .ok y S2 →
      weB X scope e σ' H3 fun z H4 => ∃ acc, H4 D = some (.lst acc) ∧ acc.length < sizeLine ∧ LcSt (zc X zt) zt.ou m av D H0 f xs Se all (i + 1) (upd H4 D (.lst (acc ++ [z]))) := by
    intro ns H3 T E3 R3 hk s0 H00 C cl fp
    obtain ⟨y', k1, k2⟩ := keepD_ok hk
    subst k2
    have En3 := En.evo Rl E3
    refine he (blkX X scope s0 H00 C cl fp) zt (ok.blk scope s0 H00 C cl fp) _ takes_no σd' σ' H3 _ _ T _ (fun _ _ _ => False) (fun _ _ _ h => h) En3 R3 (post_ok k1 fun ks H4 z E4 R4 r4 => ?_)
    have hD3 : H3 D = some (.lst acc) := E3.keep D _ hacc hDm
    have hDn : D ∉ (m ++ ms) ++ ns := fun z => (List.mem_append.mp z).elim hDm fun z => by rw [E3.new D z] at hacc; cases hacc
    have hD4 : H4 D = some (.lst acc) := E4.keep D _ hD3 hDn
    have hDk : D ∉ ((m ++ ms) ++ ns) ++ ks := fun z => (List.mem_append.mp z).elim hDn fun z => by rw [E4.new D z] at hD3; cases hD3
    have hDa : D ∈ (av ++ ms) ++ ns ++ ks := List.mem_append_left _ (List.mem_append_left _ (List.mem_append_left _ hD))
    refine ⟨acc, hD4, ?_, ⟨ms ++ ns ++ ks, S2, ys ++ [y'], acc ++ [z], rest, ?_, ?_, upd_same, ?_, h2, by simpa [consO] using h3, by simpa using h4⟩⟩
    · rw [← ra.length]; omega
    all_goals (have w : Evo ((m ++ ms) ++ ns ++ ks ++ [D]) H4 [] (upd H4 D (.lst (acc ++ [z]))) := ⟨fun a o h n => by rw [upd_ne (fun q => n (by rw [q]; exact List.mem_append_right _ (List.mem_singleton.mpr rfl)))]; exact h, fun _ h => nomatch h⟩)
    · have e1 : Evo (m ++ [D]) H0 (ms ++ ns) H3 := Evo.trans2 ev0 E3 (fun a ha => (List.mem_append.mp ha).elim (fun z => .inl (List.mem_append_left _ z)) .inr) (live0 Rl)
      have R3' : Rel (zc X zt) zt.ou (m ++ (ms ++ ns)) (av ++ (ms ++ ns)) H3 T := by rw [← List.append_assoc, ← List.append_assoc]; exact R3
      have e2 : Evo (m ++ [D]) H0 (ms ++ ns ++ ks) H4 := Evo.trans2 e1 E4 (fun a ha => by
        rw [List.append_assoc] at ha
        exact (List.mem_append.mp ha).elim (fun z => .inl (List.mem_append_left _ z)) .inr) (live0 R3')
      have R4' : Rel (zc X zt) zt.ou (m ++ (ms ++ ns ++ ks)) (av ++ (ms ++ ns ++ ks)) H4 S2 := by rw [← List.append_assoc, ← List.append_assoc, ← List.append_assoc, ← List.append_assoc]; exact R4
      have e3 := Evo.trans2 e2 w (fun a ha => by
        rcases List.mem_append.mp ha with z | z
        · rw [List.append_assoc, List.append_assoc] at z
          rw [List.append_assoc]
          exact (List.mem_append.mp z).elim (fun z => .inl (List.mem_append_left _ z)) .inr
        · exact .inl (List.mem_append_right _ z)) (live0 R4')
      rwa [List.append_nil] at e3
    · rw [← List.append_assoc, ← List.append_assoc, ← List.append_assoc, ← List.append_assoc]
      have sub : ∀ b ∈ (m ++ ms) ++ ns ++ ks ++ [D], b ∈ (av ++ ms) ++ ns ++ ks := fun b hb => by
        rcases List.mem_append.mp hb with z | z
        · exact R4.sub b z
        · rw [List.mem_singleton.mp z]; exact hDa
      refine R4.evoM w sub (fun b hb c => ?_) (fun a ha u hu => by
        have na : a ≠ D := fun q => hDk (by rw [← q]; exact ha)
        rw [upd_ne na]; exact hu) (fun a ha => ?_) fun a ha c => ?_
      · rcases List.mem_append.mp hb with z | z
        · exact R4.sto.noCode b z c
        · rw [List.mem_singleton.mp z]; exact code_ne_lst hD4
      · by_cases z : a = D
        · rw [z]; exact ⟨_, upd_same⟩
        · obtain ⟨o, ho⟩ := R4.live a ha
          exact ⟨o, by rw [upd_ne z]; exact ho⟩
      · by_cases z : a = D
        · rw [z]; exact code_ne_lst upd_same
        · rw [upd_ne z]; exact R4.noc a ha c
    · have sub : ∀ b ∈ (m ++ ms) ++ ns ++ ks ++ [D], b ∈ (av ++ ms) ++ ns ++ ks := fun b hb => by
        rcases List.mem_append.mp hb with z | z
        · exact R4.sub b z
        · rw [List.mem_singleton.mp z]; exact hDa
      rw [← List.append_assoc, ← List.append_assoc]
      have t1 := RepAll.evo E4 R3.sub (RepAll.evo E3 Rl.sub ra)
      have t2 := RepAll.evo w sub t1
      have t3 := Rep.evo w sub r4
      rw [List.append_nil] at t2 t3
      exact t2.append (.cons t3 .nil)
  have hx : (lcOne (evs c.blk cs' σd' S') (fun S1 => ev c.blk e' σd' S1)) = .ok y S2 := h1
  unfold lcOne at hx
  rcases hc with ⟨rfl, rfl⟩ | ⟨q, q', rfl, rfl, hq⟩
  · simp only [evs, Pv.R.bind_ok] at hx
    have hk : keepD (ev c.blk e' σd' S') = .ok y S2 := by
      cases w : keepD (ev c.blk e' σd' S') with
      | ok a T => rw [w] at hx; exact hx
      | ex _ _ _ => rw [w] at hx; cases hx
      | no => rw [w] at hx; cases hx
    have z := elt [] H' S' Evo.refl (by rw [List.append_nil, List.append_nil]; exact Rl) hk
    simp only [wcB, tYes, if_true]
    exact z
  · simp only [evs] at hx
    cases w : ev c.blk q' σd' S' with
    | ex _ _ _ => rw [w] at hx; cases hx
    | no => rw [w] at hx; cases hx
    | ok b T =>
      rw [w] at hx
      simp only [Pv.R.bind_ok] at hx
      intro s0 H00 C cl fp
      cases w2 : (rd T b).bind truthD with
      | none => rw [w2] at hx; cases hx
      | some k =>
        refine hq (blkX X scope s0 H00 C cl fp) zt (ok.blk scope s0 H00 C cl fp) _ takes_no σd' σ' H' _ _ S' _ (fun _ _ _ => False) (fun _ _ _ h => h) En Rl (post_ok (tst_eq w w2) fun ns H3 v E3 R3 r3 => ?_)
        have r3' : v = k := r3
        subst r3'
        cases v with
        | true =>
          rw [w2] at hx
          have hk : keepD (ev c.blk e' σd' T) = .ok y S2 := by
            cases w : keepD (ev c.blk e' σd' T) with
            | ok a T => simp only [w] at hx; exact hx
            | ex _ _ _ => simp only [w] at hx; cases hx
            | no => simp only [w] at hx; cases hx
          rw [if_pos rfl]
          exact elt ns H3 T E3 R3 hk
        | false =>
          rw [w2] at hx
          simp only [Pv.R.calm, Pv.R.ok.injEq] at hx
          obtain ⟨rfl, rfl⟩ := hx
          rw [if_neg Bool.false_ne_true]
          refine ⟨ms ++ ns, T, ys, acc, rest, Evo.trans2 ev0 E3 (fun a ha => (List.mem_append.mp ha).elim (fun z => .inl (List.mem_append_left _ z)) .inr) (live0 Rl), ?_, E3.keep D _ hacc hDm, ?_, h2, h3, by omega⟩
          · rw [← List.append_assoc, ← List.append_assoc]; exact R3
          · rw [← List.append_assoc]; exact RepAll.evo E3 Rl.sub ra
theorem lcGo_cons {f : PyData → Sto → R (Option PyData)} {x : PyData} {xs ys : List PyData} {S S2 : Sto} (h : lcGo f (x :: xs) S = .ok ys S2) : ∃ y S1 rest, f x S = .ok y S1 ∧ lcGo f xs S1 = .ok rest S2 ∧ ys = consO y rest := by
  simp only [lcGo] at h
  cases q : f x S with
  | ex _ _ _ => rw [q] at h; cases h
  | no => rw [q] at h; cases h
  | ok y S1 =>
    rw [q, Pv.R.bind_ok] at h
    cases q2 : lcGo f xs S1 with
    | ex _ _ _ => rw [q2] at h; cases h
    | no => rw [q2] at h; cases h
    | ok rest T =>
      rw [q2, Pv.R.bind_ok] at h
      simp only [Pv.R.ok.injEq] at h
      exact ⟨y, S1, rest, rfl, by rw [q2, h.2], h.1.symm⟩
/-- the end of a comprehension: the list that was made -/
theorem lc_end {Z : Kc} {ou : Option (En × SL)} {m av : List Addr} {D : Addr} {H1 : Hp} {f : PyData → Sto → R (Option PyData)} {xs : List PyData} {S1 Se : Sto} {all : List PyData} {H' : Hp} (R1 : Rel Z ou m av H1 S1) (hD : H1 D = none)
    (h : LcSt Z ou m (av ++ [D]) D (upd H1 D (.lst [])) f xs Se all xs.length H') : ∃ ms vs, Evo m H1 (ms ++ [D]) H' ∧ Rel Z ou (m ++ ms) (av ++ (ms ++ [D])) H' Se ∧ D ∉ m ++ ms ∧ H' D = some (.lst vs) ∧ RepAll Z.K H' (av ++ (ms ++ [D])) all vs := by
  obtain ⟨ms, S', ys, acc, rest, e, R', hacc, ra, hg, hall, hl⟩ := h.ex
  rw [List.drop_length] at hg
  simp only [lcGo, Pv.R.ok.injEq] at hg
  obtain ⟨rfl, rfl⟩ := hg
  rw [List.append_nil] at hall
  subst hall
  have nm : D ∉ m := fun z => by
    obtain ⟨u, hu⟩ := R1.live D (R1.sub D z)
    rw [hD] at hu; cases hu
  have nms : D ∉ ms := fun z => by
    have := e.new D z
    rw [upd_same] at this; cases this
  have sub : ∀ a ∈ av ++ (ms ++ [D]), a ∈ av ++ [D] ++ ms := fun a ha => by
    simp only [List.mem_append, List.mem_singleton] at ha ⊢
    rcases ha with z | z | z
    · exact .inl (.inl z)
    · exact .inr z
    · exact .inl (.inr z)
  have sub2 : ∀ a ∈ av ++ [D] ++ ms, a ∈ av ++ (ms ++ [D]) := fun a ha => by
    simp only [List.mem_append, List.mem_singleton] at ha ⊢
    rcases ha with (z | z) | z
    · exact .inl z
    · exact .inr (.inr z)
    · exact .inr (.inl z)
  refine ⟨ms, acc, ⟨fun a o ha n => ?_, fun p hp => ?_⟩, R'.reav sub fun a ha => sub2 a (R'.sub a ha), fun z => (List.mem_append.mp z).elim nm nms, hacc, RepAll.less sub ra⟩
  · have na : a ≠ D := ne_of_none ha hD
    exact e.keep a o (by rw [upd_ne na]; exact ha) fun z => (List.mem_append.mp z).elim n fun z => na (List.mem_singleton.mp z)
  · rcases List.mem_append.mp hp with hp | hp
    · have := e.new p hp
      have np : p ≠ D := fun z => nms (z ▸ hp)
      rwa [upd_ne np] at this
    · rw [List.mem_singleton.mp hp]; exact hD
/-- the comprehension, whatever it walks -/
theorem lc_common {X : Cx} {zt : Zt} (ok : XOk g N sc d c X zt) {scope : Scope} {e : Expr} {e' : Ex} {cs : List Expr} {cs' : Exs} {t : Tg} {own : List Nat} (he : SE g N (relS scope sc) d c.blk e e')
    (hc : (cs = [] ∧ cs' = .nil) ∨ ∃ q q', cs = [q] ∧ cs' = .cons q' .nil ∧ ST g N (relS scope sc) d c.blk q q') (hin : (slotsOf t).all (fun i => decide (i ∈ own)) = true)
    {σd : En} {σ : SL} {H1 : Hp} {m av : List Addr} {S1 S2 : Sto} {xs ys : List PyData} {D : Addr} (En1 : EnR (zc X zt) H1 m av σd σ) (R1 : Rel (zc X zt) zt.ou m av H1 S1) (hD : H1 D = none) (hz : xs.length ≤ sizeLine)
    (hgo : lcGo (fun y S => match setTg t y (wipeD σd own) with | some σ' => lcOne (evs c.blk cs' σ' S) fun S1 => ev c.blk e' σ' S1 | none => .no) xs S1 = .ok ys S2) :
    LcSt (zc X zt) zt.ou m (av ++ [D]) D (upd H1 D (.lst [])) (fun y S => match setTg t y (wipeD σd own) with | some σ' => lcOne (evs c.blk cs' σ' S) fun S1 => ev c.blk e' σ' S1 | none => .no) xs S2 ys 0 (upd H1 D (.lst [])) ∧
    ∀ (i : Nat) (x : PyData) (v : V) (H' : Hp) (ms : List Addr) (S' : Sto) (acc0 : List PyData) (acc : List V) (rest : List PyData), xs[i]? = some x → Evo (m ++ [D]) (upd H1 D (.lst [])) ms H' → Rel (zc X zt) zt.ou (m ++ ms) (av ++ [D] ++ ms) H' S' → H' D = some (.lst acc) → RepAll X.K H' (av ++ [D] ++ ms) acc0 acc →
      lcGo (fun y S => match setTg t y (wipeD σd own) with | some σ' => lcOne (evs c.blk cs' σ' S) fun S1 => ev c.blk e' σ' S1 | none => .no) (xs.drop i) S' = .ok rest S2 → acc0 ++ rest = ys → acc0.length ≤ i → Rep X.K H' (av ++ [D] ++ ms) x v →
      tgR X.K t v (L2.wipe σ own) H' fun σ2 H2 => L2.wipe σ2 own = L2.wipe σ own ∧ wcB X scope cs σ2 H2 fun b H3 =>
        if b = true then weB X scope e σ2 H3 fun z H4 => ∃ acc, H4 D = some (.lst acc) ∧ acc.length < sizeLine ∧ LcSt (zc X zt) zt.ou m (av ++ [D]) D (upd H1 D (.lst [])) (fun y S => match setTg t y (wipeD σd own) with | some σ' => lcOne (evs c.blk cs' σ' S) fun S1 => ev c.blk e' σ' S1 | none => .no) xs S2 ys (i + 1) (upd H4 D (.lst (acc ++ [z])))
        else LcSt (zc X zt) zt.ou m (av ++ [D]) D (upd H1 D (.lst [])) (fun y S => match setTg t y (wipeD σd own) with | some σ' => lcOne (evs c.blk cs' σ' S) fun S1 => ev c.blk e' σ' S1 | none => .no) xs S2 ys (i + 1) H3 := by
  obtain ⟨E0, R0⟩ := R1.laidA (o := .lst []) hD
  refine ⟨⟨[], S1, [], [], ys, Evo.refl, by rw [List.append_nil, List.append_nil]; exact R0, upd_same, .nil, hgo, rfl, Nat.le_refl _⟩, fun i x v H' ms S' acc0 acc rest hx e0 Rl hacc ra hg hall hl rx => ?_⟩
  have hdrop : xs.drop i = x :: xs.drop (i + 1) := by
    obtain ⟨h1, h2⟩ := List.getElem?_eq_some_iff.mp hx
    rw [List.drop_eq_getElem_cons h1, h2]
  rw [hdrop] at hg
  obtain ⟨y, T, rest', k1, k2, k3⟩ := lcGo_cons hg
  have subM : ∀ a ∈ m ++ [D], a ∈ av ++ [D] := fun a ha => (List.mem_append.mp ha).elim (fun z => List.mem_append_left _ (R1.sub a z)) fun z => List.mem_append_right _ z
  have En0 : EnR (zc X zt) (upd H1 D (.lst [])) m (av ++ [D]) σd σ := by
    have := EnR.evo2 (m := m) (ms := []) E0 R1.sub En1
    rwa [List.append_nil] at this
  have En2 := (EnR.evo2 (m := m) (ms := ms) e0 subM En0).wipe own
  cases q : setTg t x (wipeD σd own) with
  | none => rw [q] at k1; cases k1
  | some σd' =>
    rw [q] at k1
    refine tg_ok (Z := zc X zt) En2 rx q fun σ' En' hw => ?_
    have ww : ∀ (own : List Nat) (σ : SL), L2.wipe (L2.wipe σ own) own = L2.wipe σ own := by
      have key : ∀ (own own2 : List Nat) (σ : SL), (∀ i ∈ own, i ∈ own2) → ∀ j : Nat, j ∈ own → (L2.wipe σ own)[j]? = (L2.wipe σ own)[j]? := fun _ _ _ _ _ _ => rfl
      intro own σ
      have get : ∀ (own : List Nat) (σ : SL) (j : Nat), (L2.wipe σ own)[j]? = if j ∈ own then (σ[j]?.map fun _ => none) else σ[j]? := by
        intro own
        induction own with
        | nil => intro σ j; simp [L2.wipe]
        | cons a own ih =>
          intro σ j
          unfold L2.wipe
          rw [List.getElem?_set]
          by_cases ha : a = j
          · subst ha
            rw [if_pos rfl, if_pos List.mem_cons_self]
            by_cases hlt : a < σ.length
            · rw [if_pos (by rw [L2.wipe_length]; exact hlt)]
              rw [List.getElem?_eq_getElem hlt]; rfl
            · rw [if_neg (by rw [L2.wipe_length]; exact hlt)]
              rw [List.getElem?_eq_none (Nat.le_of_not_lt hlt)]; rfl
          · rw [if_neg ha, ih]
            by_cases hj : j ∈ own
            · rw [if_pos hj, if_pos (List.mem_cons_of_mem _ hj)]
            · rw [if_neg hj, if_neg (fun z => (List.mem_cons.mp z).elim (fun z => ha z.symm) hj)]
      apply List.ext_getElem?
      intro j
      rw [get, get]
      by_cases hj : j ∈ own
      · rw [if_pos hj, if_pos hj]
        cases σ[j]? <;> rfl
      · rw [if_neg hj, if_neg hj]
    refine ⟨by rw [hw own hin, ww], ?_⟩
    have hDm : D ∉ m ++ ms := fun z => by
      rcases List.mem_append.mp z with z | z
      · obtain ⟨u, hu⟩ := R1.live D (R1.sub D z)
        rw [hD] at hu; cases hu
      · have := e0.new D z
        rw [upd_same] at this; cases this
    refine lc_turn ok he hc (fun a ha => List.mem_append_left _ (R1.sub a ha)) (List.mem_append_right _ (List.mem_singleton.mpr rfl)) e0 Rl hDm hacc ra En' k1 k2 (by rw [← hall, k3]) hl ?_
    have := (List.getElem?_eq_some_iff.mp hx).1
    omega
/-- the tests of a comprehension -/
theorem pts_wcB {X : Cx} {scope : Scope} {cs : List Expr} (h : cs.length ≤ 1) (s0 : Shared) (H0 : Hp) (C : Addr) (cl : List (Str × Addr)) (fp : List Addr) : PTs (blkX X scope s0 H0 C cl fp) cs (wcB X scope cs) := by
  match cs, h with
  | [], _ => exact pts_nil
  | [q], _ => exact pts_one ⟨fun pins s σ H Q I h => h s0 H0 C cl fp pins s I⟩
theorem LcSt.keep {Z : Kc} {ou : Option (En × SL)} {m av : List Addr} {D : Addr} {H1 : Hp} {f : PyData → Sto → R (Option PyData)} {xs : List PyData} {S1 Se : Sto} {all : List PyData} {i : Nat} {H' : Hp} (R1 : Rel Z ou m av H1 S1) (hD : H1 D = none)
    (st : LcSt Z ou m (av ++ [D]) D (upd H1 D (.lst [])) f xs Se all i H') {a : Addr} (n : a ∉ av) {o : HO} (h : H1 a = some o) : H' a = some o := by
  obtain ⟨ns, _, _, _, _, e0, _⟩ := st.ex
  have na : a ≠ D := ne_of_none h hD
  exact e0.keep a _ (by rw [upd_ne na]; exact h) fun z => (List.mem_append.mp z).elim (fun z => n (R1.sub a z)) fun z => na (List.mem_singleton.mp z)
theorem lcOne_ne {t : Pv.R (List A)} {f : Sto → Pv.R A} {k : Nat} {p : PyData} {S : Sto} : lcOne t f ≠ .ex k p S := by
  unfold lcOne
  generalize (Pv.R.bind t _) = r
  cases r <;> exact fun z => nomatch z
theorem lcGo_ne {f : PyData → Sto → Pv.R (Option PyData)} (hf : ∀ y S k p S', f y S ≠ .ex k p S') : ∀ (xs : List PyData) {S : Sto} {k : Nat} {p : PyData} {S' : Sto}, lcGo f xs S ≠ .ex k p S'
  | [], _, _, _, _ => fun z => nomatch z
  | x :: xs, S, k, p, S' => by
    simp only [lcGo]
    cases q : f x S with
    | no => exact fun z => nomatch z
    | ex k2 p2 S2 => exact absurd q (hf _ _ _ _ _)
    | ok y S1 =>
      rw [Pv.R.bind_ok]
      cases q2 : lcGo f xs S1 with
      | no => exact fun z => nomatch z
      | ex k2 p2 S2 => exact absurd q2 (lcGo_ne hf xs)
      | ok ys S2 => exact fun z => nomatch z
/-- a walk of a comprehension that ends as its whole may -/
theorem lcGo_has {f : PyData → Sto → Pv.R (Option PyData)} (hf : ∀ y S k p S', f y S ≠ .ex k p S') {xs : List PyData} {S : Sto} {Z : Kc} {ou : Option (En × SL)} {m av : List Addr} {H : Hp} {Q : VK} {EX : XK} {h : List PyData → Sto → Pv.R A} (P : PostA Z ou m av H ((lcGo f xs S).bind h) Q EX) : ∃ ys S2, lcGo f xs S = .ok ys S2 := by
  cases q : lcGo f xs S with
  | ok ys S2 => exact ⟨ys, S2, rfl⟩
  | ex k p S2 => exact absurd q (lcGo_ne hf xs)
  | no => rw [q] at P; exact P.elim
theorem lcGo_hasF {f : PyData → Sto → Pv.R (Option PyData)} (hf : ∀ y S k p S', f y S ≠ .ex k p S') {xs : List PyData} {S : Sto} {Z : Kc} {ou : Option (En × SL)} {m av : List Addr} {H : Hp} {Q : VK} {EX : XK} {h : List PyData → Sto → Pv.R A} (P : PostF Z ou m av H ((lcGo f xs S).bind h) Q EX) : ∃ ys S2, lcGo f xs S = .ok ys S2 := by
  cases q : lcGo f xs S with
  | ok ys S2 => exact ⟨ys, S2, rfl⟩
  | ex k p S2 => exact absurd q (lcGo_ne hf xs)
  | no => rw [q] at P; exact P.elim
theorem lc_read {X : Cx} {zt : Zt} (ok : XOk g N sc d c X zt) {scope : Scope} {tg it e : Expr} {it' : Itr} {e' : Ex} {cs : List Expr} {cs' : Exs} {t : Tg} {own : List Nat} (hi : SI g N sc d c tg it it') (he : SE g N (relS scope sc) d c.blk e e')
    (hc : (cs = [] ∧ cs' = .nil) ∨ ∃ q q', cs = [q] ∧ cs' = .cons q' .nil ∧ ST g N (relS scope sc) d c.blk q q') (hin : (slotsOf t).all (fun i => decide (i ∈ own)) = true)
    {σd : En} {σ : SL} {H : Hp} {m av : List Addr} {S : Sto} {Q : VK} {EX : XK} {W : WX} (tk : Takes X W) (hW : ∀ cls d H', EX cls d H' → W cls d σ H') (En : EnR (zc X zt) H m av σd σ) (R : Rel (zc X zt) zt.ou m av H S) (P : PostF (zc X zt) zt.ou m av H (ev c (.lc t own it' e' cs') σd S) Q EX) :
    tLc (wI X tg it) (tgR X.K t) (wcB X scope cs) (weB X scope e) own σ H Q := by
  simp only [ev] at P
  refine hi X zt ok W tk σd σ H m av S _ _ hW En R (P.intoF fun xs S1 e1 ms H1 J E1 R1 r1 => ?_)
  have P1 := P.stepF e1 E1 R1
  obtain ⟨ys, S2, e2⟩ := lcGo_hasF (fun y S k p S' => by split; exact lcOne_ne; exact fun z => nomatch z) P1
  rw [e2, Pv.R.bind_ok] at P1
  have En1 := En.evo R E1
  intro D hD
  obtain ⟨b0, turn⟩ := lc_common ok he hc hin En1 R1 hD r1.sz e2
  have kp : ∀ i H', i ≤ xs.length → LcSt (zc X zt) zt.ou (m ++ ms) (av ++ ms ++ [D]) D (upd H1 D (.lst [])) (fun y S => match setTg t y (wipeD σd own) with | some σ' => lcOne (evs c.blk cs' σ' S) fun S1 => ev c.blk e' σ' S1 | none => .no) xs S2 ys i H' → Kept H1 (av ++ ms) H' := fun i H' _ st a n o h => st.keep R1 hD n h
  refine lc_it r1.walk (fun i H' => LcSt (zc X zt) zt.ou (m ++ ms) (av ++ ms ++ [D]) D (upd H1 D (.lst [])) (fun y S => match setTg t y (wipeD σd own) with | some σ' => lcOne (evs c.blk cs' σ' S) fun S1 => ev c.blk e' σ' S1 | none => .no) xs S2 ys i H') b0 kp (fun i v H' H'' hi st y => ?_) fun H' st => ?_
  · obtain ⟨x, hx, y⟩ := y
    have sub : ∀ a ∈ (m ++ ms) ++ [D], a ∈ (av ++ ms) ++ [D] := fun a ha => (List.mem_append.mp ha).elim (fun z => List.mem_append_left _ (R1.sub a z)) fun z => List.mem_append_right _ z
    obtain ⟨E0, R0⟩ := R1.laidA (o := .lst []) hD
    obtain ⟨ns, S', acc0, acc, rest, e0, Rl, hacc, ra, hg, hall, hl⟩ := st.ex
    rcases y with ⟨rfl, r⟩ | ⟨T, x1, x2, v1, v2, rfl, rfl, hT, rfl, q1, q2⟩
    · exact turn i x v H'' ns S' acc0 acc rest hx e0 Rl hacc ra hg hall hl (Rep.evo e0 sub (Rep.evo E0 R1.sub r))
    · obtain ⟨E3, R3, nT⟩ := Rl.laid (o := .tup [v1, v2]) hT
      have k : ∀ a v, H' a = some v → upd H' T (.tup [v1, v2]) a = some v := fun a v h => by rw [upd_ne (ne_of_none h hT)]; exact h
      have up : ∀ {x v}, Rep X.K H' (av ++ ms ++ [D] ++ ns) x v → Rep X.K (upd H' T (.tup [v1, v2])) (av ++ ms ++ [D] ++ ns) x v := fun h => by
        have := Rep.evo E3 Rl.sub h
        rwa [List.append_nil] at this
      have t' := RepAll.evo E3 Rl.sub ra
      rw [List.append_nil] at t'
      refine turn i _ _ _ ns S' acc0 acc rest hx ⟨fun a o h n => k _ _ (e0.keep a o h n), e0.new⟩ R3 (k _ _ hacc) t' hg hall hl ?_
      exact Rep.tupH (vs := [v1, v2]) (.inl upd_same) nT (.cons (up (Rep.evo e0 sub (Rep.evo E0 R1.sub q1))) (.cons (up (Rep.evo e0 sub (Rep.evo E0 R1.sub q2))) .nil))
  · obtain ⟨ns, vs, k1, k2, k3, k4, k5⟩ := lc_end R1 hD st
    exact P1 ys rfl ns D H' vs k1 k2 k3 k4 k5
theorem pg_blk {X : Cx} {zt : Zt} (ok : XOk g N sc d c X zt) {scope : Scope} {tg : Expr} {t : Tg} (ht : TrT N (relS scope sc) scope tg t) (s0 : Shared) (H0 : Hp) (C : Addr) (cl : List (Str × Addr)) (fp : List Addr) : PG (blkX X scope s0 H0 C cl fp) tg (tgR X.K t) := by
  refine pg_tg (X := blkX X scope s0 H0 C cl fp) (scope := scope) ok.calm (by show X.N.Nodup; rw [ok.N_]; exact ok.nd) ok.N_ (by show relS scope X.env.scope = _; rw [ok.sc_]) (fun y hy => ?_) ht
  show (scope.names.lookup y == some NameKind.cell) = true
  rw [hy]; rfl
theorem sef_lc {scope : Scope} {tg it e : Expr} {it' : Itr} {e' : Ex} {cs : List Expr} {cs' : Exs} {t : Tg} {p : Pos} (own : List (Str × Nat)) (hb : blkC N sc scope own = true) (ht : TrT N (relS scope sc) scope tg t) (hi : SI g N sc d c tg it it') (he : SE g N (relS scope sc) d c.blk e e')
    (hc : (cs = [] ∧ cs' = .nil) ∨ ∃ q q', cs = [q] ∧ cs' = .cons q' .nil ∧ ST g N (relS scope sc) d c.blk q q') (h1 : cs.length ≤ 1) (hin : (slotsOf t).all (fun i => decide (i ∈ own.map (·.2))) = true) (hfo : ∀ env v, foldedSetIterable it env v = pure v) :
    SEF g N sc d c (.ListComp e [⟨tg, it, cs, 0⟩] scope p) (.lc t (own.map (·.2)) it' e' cs') := by
  intro X zt ok W tk σd σ H m av S Q EX hW En R P
  have hblk : BlkOk X.N X.env.scope scope own := by rw [ok.N_, ok.sc_]; exact blkOk_by hb
  exact we_of (pe_lc (wi := wI X tg it) (g := tgR X.K t) (tt := wcB X scope cs) (te := weB X scope e) ok.calm (by rw [ok.N_]; exact ok.nd) pi_wI hblk
    (pg_blk ok ht) (fun s0 H0 C cl fp => pts_wcB h1 s0 H0 C cl fp) (fun s0 H0 C cl fp => ⟨fun pins s σ H Q I h => h s0 H0 C cl fp pins s I⟩) (hfo _)) (lc_read ok hi he hc hin tk hW En R P)
end
/-- names take the items of a tuple -/
theorem repl_zip {Z : Kc} {H : Hp} {m av : List Addr} : ∀ {is : List Nat} {xs : List A} {vs : List V} {σd σd' : En} {σ : SL}, EnR Z H m av σd σ → RepL Z H m av xs vs → setAllA is xs σd = some σd' → EnR Z H m av σd' ((is.zip vs).foldl (fun σ p => σ.set p.1 (some p.2)) σ)
  | [], [], [], σd, σd', σ, En, r, e => by
    simp only [setAllA, Option.some.injEq] at e
    subst e
    exact En
  | [], [], _ :: _, _, _, _, _, r, _ => r.elim
  | [], _ :: _, _, _, _, _, _, _, e => by simp [setAllA] at e
  | _ :: _, [], _, _, _, _, _, _, e => by simp [setAllA] at e
  | _ :: _, _ :: _, [], _, _, _, _, r, _ => r.elim
  | i :: is, x :: xs, v :: vs, σd, σd', σ, En, r, e => by
    simp only [setAllA] at e
    have z := repl_zip (is := is) (xs := xs) (vs := vs) (EnR.set En i r.1) r.2 e
    exact z
/-- a target takes any value -/
theorem tgA_ok {Z : Kc} {H : Hp} {m av : List Addr} {t : Tg} {x : A} {v : V} {σd σd' : En} {σ : SL} {Q : SL → Hp → Prop} (En : EnR Z H m av σd σ) (r : RepA Z H m av x v) (e : setTgA t x σd = some σd') (q : ∀ σ', EnR Z H m av σd' σ' → Q σ' H) : tgR Z.K t v σ H Q := by
  cases x with
  | d x => exact tg_ok En r (by cases t <;> exact e) fun σ' En' _ => q σ' En'
  | tup xs =>
    cases t with
    | n i =>
      simp only [setTgA, Option.some.injEq] at e
      subst e
      exact q _ (EnR.set En i r)
    | t is =>
      simp only [setTgA] at e
      split at e
      · rename_i hl
        obtain ⟨a, vs, rfl, h, _, t⟩ := r
        have hv := RepL.length t
        exact ⟨a, vs, rfl, .inl (.inl h), by rw [← hv, hl], gNames_ok (by rw [hl, hv]) (q _ (repl_zip En t e))⟩
      · cases e
  | ref i =>
    cases t with
    | n i =>
      simp only [setTgA, Option.some.injEq] at e
      subst e
      exact q _ (EnR.set En i r)
    | t is => simp [setTgA] at e
  | exc i p =>
    cases t with
    | n i =>
      simp only [setTgA, Option.some.injEq] at e
      subst e
      exact q _ (EnR.set En i r)
    | t is => simp [setTgA] at e
  | lam k =>
    cases t with
    | n i =>
      simp only [setTgA, Option.some.injEq] at e
      subst e
      exact q _ (EnR.set En i r)
    | t is => simp [setTgA] at e
section
variable {g : Stat} {N : List Str} {sc : Scope} {d : Nat} {c : Cfg}
theorem st_ite {t a b : Expr} {t' a' b' : Ex} {p : Pos} (ht : ST g N sc d c t t') (ha : ST g N sc d c a a') (hb : ST g N sc d c b b') : ST g N sc d c (.IfExp t a b p) (.ite t' a' b') := by
  intro X zt ok W tk σd σ H m av S Q EX hW En R P
  simp only [tst, ev] at P
  have P' : Post (zc X zt) zt.ou (fun _ _ _ (b k : Bool) => k = b) m av H ((ev c t' σd S).bind fun x S1 => match (rd S1 x).bind truthD with
      | some true => tst c a' σd S1 | some false => tst c b' σd S1 | none => .no) Q EX := by
    cases q : ev c t' σd S with
    | ex _ _ _ => rw [q] at P; exact P
    | no => rw [q] at P; exact P.elim
    | ok x S1 =>
      rw [q, Pv.R.bind_ok] at P
      rw [Pv.R.bind_ok]
      cases q2 : (rd S1 x).bind truthD with
      | none => rw [q2] at P; exact P.elim
      | some k =>
        cases k with
        | true => rw [q2] at P; exact P
        | false => rw [q2] at P; exact P
  intro pins s I
  refine isTrue_IfExp (thn (ht X zt ok W tk σd σ H m av S (fun v H1 => (v = true → wt X a σ H1 Q) ∧ (v = false → wt X b σ H1 Q)) _ hW En R (tst_into (f := fun x S1 k => match k with | true => tst c a' σd S1 | false => tst c b' σd S1) P' fun x S1 k e1 e2 go ms H1 v E1 R1 r1 => ?_) pins s I) fun v s1 ⟨H1, I1, h1, h2⟩ => ?_)
  · subst r1
    have P1 := go ms H1 E1 R1
    refine ⟨fun z => ?_, fun z => ?_⟩
    · subst z
      exact ha X zt ok W tk σd σ H1 _ _ S1 Q _ hW (En.evo R E1) R1 P1
    · subst z
      exact hb X zt ok W tk σd σ H1 _ _ S1 Q _ hW (En.evo R E1) R1 P1
  · cases v with
    | true => exact h1 rfl pins s1 I1
    | false => exact h2 rfl pins s1 I1
theorem snd_chain {a b e : Expr} {a' b' e' : Ex} {p : Pos} (o o' : COp) (ha : SE g N sc d c a a') (hb : SE g N sc d c b b') (he : SE g N sc d c e e') : Snd g N sc d c (.Compare a [copOf o, copOf o'] [b, e] p) (.chain o o' a' b' e') := by
  have hm : lastMarks [copOf o, copOf o'] [b, e] = false := by
    show behindInMarks (copOf o') e = false
    cases o' <;> exact nomark e
  have key : ∀ (X : Cx) (zt : Zt), XOk g N sc d c X zt → ∀ (W : WX), Takes X W → ∀ (σd : En) (σ : SL) (H : Hp) (m av : List Addr) (S : Sto) (Q : VK) (E : XK), (∀ cls d H', E cls d H' → W cls d σ H') → EnR (zc X zt) H m av σd σ → Rel (zc X zt) zt.ou m av H S →
      PostA (zc X zt) zt.ou m av H (ev c (.chain o o' a' b' e') σd S) Q E → tChain (wop X (compareOp (copOf o))) (wop X (compareOp (copOf o'))) (we X a) (we X b) (we X e) σ H Q := by
    intro X zt ok W tk σd σ H m av S Q EX hW En R P
    simp only [ev] at P
    refine ha X zt ok W tk σd σ H m av S _ _ hW En R (P.into fun x S1 e1 ms H1 v E1 R1 r1 => ?_)
    have P1 := P.step e1 E1 R1
    have En1 := En.evo R E1
    refine hb X zt ok W tk σd σ H1 _ _ S1 _ _ hW En1 R1 (P1.into fun y S2 e2 ns H2 u E2 R2 r2 => ?_)
    have P2 := P1.step e2 E2 R2
    cases x with
    | ref _ => exact P2.elim
    | tup _ => exact P2.elim
    | exc _ _ => exact P2.elim
    | lam _ => exact P2.elim
    | d x =>
      cases y with
      | ref _ => exact P2.elim
      | tup _ => exact P2.elim
      | exc _ _ => exact P2.elim
      | lam _ => exact P2.elim
      | d y =>
        cases w : cmpD o x y with
        | none => simp only [w] at P2; exact P2.elim
        | some k =>
          simp only [w] at P2
          refine cmp_ok (units64 ok) w (.inl (RepA.evo R1 E2 (x := .d x) r1)) (.inl r2) ⟨k, rfl, ?_⟩
          cases k with
          | false => exact P2.now R2 (Rep.bool _)
          | true =>
            refine he X zt ok W tk σd σ H2 _ _ S2 _ _ hW (EnR.evo R1 E2 En1) R2 (P2.into fun z S3 e3 ks H3 q E3 R3 r3 => ?_)
            have P3 := P2.step e3 E3 R3
            cases z with
            | ref _ => exact P3.elim
            | tup _ => exact P3.elim
            | exc _ _ => exact P3.elim
            | lam _ => exact P3.elim
            | d z =>
              obtain ⟨t, e4, P4⟩ := P3.some
              cases w2 : cmpD o' y z with
              | none => rw [w2] at e4; cases e4
              | some k2 =>
                rw [w2] at e4
                simp only [Option.map_some, Option.some.injEq] at e4
                subst e4
                exact cmp_ok (units64 ok) w2 (.inl (RepA.evo R2 E3 (x := .d y) r2)) (.inl r3) (P4.now R3 (Rep.bool _))
  refine ⟨fun X zt ok W tk σd σ H m av S Q EX hW En R P => we_of (pe_chain op_wop op_wop pe_we pe_we pe_we hm) (key X zt ok W tk σd σ H m av S Q _ hW En R P), fun X zt ok W tk σd σ H m av S Q EX hW En R P => ?_, fun z => nomatch z⟩
  refine wt_of (pt_chain op_wop op_wop pe_we pe_we pe_we hm) (key X zt ok W tk σd σ H m av S _ _ hW En R ?_)
  simp only [tst] at P
  refine P.into fun x S1 e1 ms H1 v E1 R1 r1 => ?_
  have P1 := P.step e1 E1 R1
  obtain ⟨k, e2, P2⟩ := P1.some
  have hx : ∃ b, x = .d (.bool b) := by
    simp only [ev] at e1
    cases q1 : ev c a' σd S with
    | ex _ _ _ => rw [q1] at e1; cases e1
    | no => rw [q1] at e1; cases e1
    | ok x1 T1 =>
      rw [q1, Pv.R.bind_ok] at e1
      cases q2 : ev c b' σd T1 with
      | ex _ _ _ => rw [q2] at e1; cases e1
      | no => rw [q2] at e1; cases e1
      | ok x2 T2 =>
        rw [q2, Pv.R.bind_ok] at e1
        cases x1 with
        | ref _ => cases e1
        | tup _ => cases e1
        | exc _ _ => cases e1
        | lam _ => cases e1
        | d x1 =>
          cases x2 with
          | ref _ => cases e1
          | tup _ => cases e1
          | exc _ _ => cases e1
          | lam _ => cases e1
          | d x2 =>
            cases w : cmpD o x1 x2 with
            | none => simp only [w] at e1; cases e1
            | some k =>
              simp only [w] at e1
              cases k with
              | false =>
                simp only [Pv.R.ok.injEq] at e1
                exact ⟨false, e1.1.symm⟩
              | true =>
                cases q3 : ev c e' σd T2 with
                | ex _ _ _ => simp only [q3] at e1; cases e1
                | no => simp only [q3] at e1; cases e1
                | ok x3 T3 =>
                  simp only [q3, Pv.R.bind_ok] at e1
                  cases x3 with
                  | ref _ => cases e1
                  | tup _ => cases e1
                  | exc _ _ => cases e1
                  | lam _ => cases e1
                  | d z =>
                    cases q4 : cmpD o' x2 z with
                    | none => simp only [q4] at e1; cases e1
                    | some b =>
                      simp only [q4, Option.map_some, Pv.R.opt_some, Pv.R.ok.injEq] at e1
                      exact ⟨b, e1.1.symm⟩
  obtain ⟨b, rfl⟩ := hx
  simp only [rd, Option.bind_some, truthD, Option.some.injEq] at e2
  subst e2
  cases r1
  exact ⟨_, rfl, P2.now R1 rfl⟩
end
/-! ### a display of a dict, and its subscript at once -/
section
variable (g : Stat) (N : List Str) (sc : Scope) (d : Nat) (c : Cfg)
inductive SVs : List Expr → Exs → Prop
  | nil : SVs [] .nil
  | cons {e : Expr} {i : Ex} {es : List Expr} {is : Exs} (h : SE g N sc d c e i) (r : SVs es is) : SVs (e :: es) (.cons i is)
end
section
variable {g : Stat} {N : List Str} {sc : Scope} {d : Nat} {c : Cfg}
theorem keyI_is {k : Option Expr} {i : Int} (h : keyI k = some i) : ∃ j p, k = some (.Constant (.int i) j p) := by
  unfold keyI at h
  split at h
  · simp only [Option.some.injEq] at h
    subst h
    exact ⟨_, _, rfl⟩
  · cases h
theorem pairs_read {X : Cx} {zt : Zt} (ok : XOk g N sc d c X zt) {pos : Pos} : ∀ {keys : List (Option Expr)} {values : List Expr} {ks : List Int} {vs : Exs}, keys.map keyI = ks.map some → keys.length = values.length → SVs g N sc d c values vs →
    ∃ trs, PPs X pos keys values trs ∧ ∀ (σd : En) (σ : SL) (H : Hp) (m av : List Addr) (S : Sto) (Q : List (V × V) → Hp → Prop), EnR (zc X zt) H m av σd σ → Rel (zc X zt) zt.ou m av H S → PostL (zc X zt) zt.ou m av H (evs c vs σd S) (fun xs H' => Q ((ks.map V.int).zip xs) H') (fun _ _ _ => False) → tPairs trs σ H Q
  | [], values, ks, vs, hk, hl, hv => by
    cases hv with
    | nil =>
      refine ⟨[], pps_nil, fun σd σ H m av S Q En R P => ?_⟩
      have h := P.now (v := []) R .nil
      cases ks with
      | nil => exact h
      | cons _ _ => simp at hk
    | cons _ _ => simp at hl
  | k :: keys, values, ks, vs, hk, hl, hv => by
    cases hv with
    | nil => simp at hl
    | @cons e i es is h r =>
      cases ks with
      | nil => simp at hk
      | cons z ks =>
        simp only [List.map_cons, List.cons.injEq] at hk
        obtain ⟨h1, h2⟩ := hk
        obtain ⟨j, p, rfl⟩ := keyI_is h1
        obtain ⟨trs, t1, t2⟩ := pairs_read ok (pos := pos) h2 (by simpa using hl) r
        refine ⟨_, pps_cons pe_int pe_we t1, fun σd σ H m av S Q En R P => ?_⟩
        simp only [evs] at P
        show we X e σ H _
        refine h X zt ok _ takes_no σd σ H m av S _ (fun _ _ _ => False) (fun _ _ _ h => h) En R (P.into fun x S1 e1 ms H1 v E1 R1 r1 => ?_)
        have P1 := P.step e1 E1 R1
        refine t2 σd σ H1 _ _ S1 _ (En.evo R E1) R1 (P1.into fun xs S2 e2 ns H2 us E2 R2 r2 => ?_)
        have P2 := P1.step e2 E2 R2
        exact P2.now (v := v :: us) R2 (.cons (RepA.evo R1 E2 r1) r2)
theorem merge_key {k : Key} : ∀ {kvs : List (Key × V)} {acc : List (Key × V)}, (kvs.map (·.1)).Nodup → valV (mergeK acc kvs) k = match (kvs.find? fun kv => decide (kv.1 = k)) with | some p => some p.2 | none => valV acc k
  | [], acc, _ => rfl
  | p :: kvs, acc, nd => by
    have nd2 : (kvs.map (·.1)).Nodup := (List.nodup_cons.mp nd).2
    have nin : p.1 ∉ kvs.map (·.1) := (List.nodup_cons.mp nd).1
    show valV (mergeK (putK acc p.1 p.2) kvs) k = _
    rw [merge_key nd2, List.find?_cons]
    by_cases e : p.1 = k
    · subst e
      rw [decide_eq_true rfl]
      have : (kvs.find? fun kv => decide (kv.1 = p.1)) = none := by
        rw [List.find?_eq_none]
        intro q hq
        simp only [decide_eq_true_eq]
        exact fun z => nin (List.mem_map.mpr ⟨q, hq, z⟩)
      simp only [this]
      rw [valV_put, if_pos rfl]
    · rw [decide_eq_false e]
      cases kvs.find? fun kv => decide (kv.1 = k) with
      | some q => rfl
      | none =>
        simp only
        rw [valV_put, if_neg (fun z => e z.symm)]
theorem zip_find {K : PySem.W.Frag} {H : Hp} {av : List Addr} {j : Int} {x : PyData} : ∀ {ks : List Int} {ds : List PyData} {vs : List V}, RepAll K H av ds vs → (ks.zip ds).lookup j = some x →
    ∃ v, (((ks.map Sum.inl : List Key).zip vs).find? fun kv => decide (kv.1 = Sum.inl j)) = some (Sum.inl j, v) ∧ Rep K H av x v
  | [], _, _, _, e => by simp at e
  | _ :: _, [], _, _, e => by simp at e
  | k :: ks, d :: ds, _, .cons h r, e => by
    simp only [List.zip_cons_cons, List.lookup_cons] at e
    simp only [List.map_cons, List.zip_cons_cons, List.find?_cons]
    by_cases hj : j = k
    · subst hj
      simp only [BEq.rfl, Option.some.injEq] at e
      subst e
      rw [decide_eq_true rfl]
      exact ⟨_, rfl, h⟩
    · have e1 : (j == k) = false := by simp [hj]
      rw [e1] at e
      have e2 : decide ((Sum.inl k : Key) = Sum.inl j) = false := decide_eq_false (fun z => hj (Sum.inl.inj z).symm)
      rw [e2]
      exact zip_find r e
theorem se_dix {keys : List (Option Expr)} {values : List Expr} {i : Expr} {ks : List Int} {vs : Exs} {i' : Ex} {p p2 : Pos} (hk : keys.map keyI = ks.map some) (nd : ks.Nodup) (h15 : ks.length ≤ 15) (h0 : keys ≠ []) (hl : keys.length = values.length) (hv : SVs g N sc d c values vs) (hi : SE g N sc d c i i') (hs : NoSl i) :
    SE g N sc d c (.Subscript (.Dict keys values p2) i p) (.dix ks vs i') := by
  intro X zt ok W tk σd σ H m av S Q EX hW En R P
  simp only [ev] at P
  obtain ⟨trs, t1, t2⟩ := pairs_read ok (pos := p2) hk hl hv
  have lk : keys.length = ks.length := by have := congrArg List.length hk; simpa using this
  have hall : keys.all (·.isSome) = true := by
    rw [List.all_eq_true]
    intro q hq
    have : keyI q ∈ ks.map some := by rw [← hk]; exact List.mem_map.mpr ⟨q, hq, rfl⟩
    obtain ⟨z, _, hz⟩ := List.mem_map.mp this
    obtain ⟨_, _, rfl⟩ := keyI_is hz.symm
    rfl
  refine we_of (pe_dget (by have := units64 ok; omega) (pe_disp t1 hall hl h0 (by rw [lk]; exact h15)) pe_we hs) ?_
  intro q hq
  obtain ⟨E0, R0⟩ := R.laidA (o := .dK []) hq
  have nq : ∀ a ∈ av, a ≠ q := fun a ha z => by
    obtain ⟨u, hu⟩ := R.live a ha
    rw [z, hq] at hu; cases hu
  have En0 : EnR (zc X zt) (upd H q (.dK [])) m (av ++ [q]) σd σ := by
    have := EnR.evo2 (m := m) (ms := []) E0 R.sub En
    rwa [List.append_nil] at this
  obtain ⟨as, S1, e1, P0⟩ := P.calmed
  rw [Pv.R.bind_ok] at P0
  obtain ⟨y, S2, e2, P0⟩ := P0.calmed
  rw [Pv.R.bind_ok] at P0
  refine t2 σd σ _ m (av ++ [q]) S _ En0 R0 (post_ok e1 fun ms H2 xs E2 R2 r2 => ?_)
  have nqm : q ∉ m := fun z => nq q (R.sub q z) rfl
  have nqs : q ∉ ms := fun z => by
    have := E2.new q z
    rw [upd_same] at this; cases this
  have nqmm : q ∉ m ++ ms := fun z => (List.mem_append.mp z).elim nqm nqs
  have hq2 : H2 q = some (.dK []) := E2.keep q _ upd_same nqm
  have lxs : xs.length = as.length := (r2.length).symm
  let kvs : List (Key × V) := (ks.map Sum.inl : List Key).zip xs
  have hps : (ks.map V.int).zip xs = kvs.map (fun kv => (kV kv.1, kv.2)) := by
    have key : ∀ (ks : List Int) (xs : List V), (ks.map V.int).zip xs = ((ks.map Sum.inl : List Key).zip xs).map (fun kv => (kV kv.1, kv.2)) := by
      intro ks
      induction ks with
      | nil => intro xs; rfl
      | cons k ks ih =>
        intro xs
        cases xs with
        | nil => rfl
        | cons x xs => simp only [List.map_cons, List.zip_cons_cons, ih]; rfl
    exact key ks xs
  refine ⟨hq2, kvs, hps, ?_, ?_⟩
  · have : kvs.length ≤ ks.length := by
      show ((ks.map Sum.inl : List Key).zip xs).length ≤ _
      rw [List.length_zip, List.length_map]; omega
    omega
  -- the dict is written
  have W : Evo (m ++ ms ++ [q]) H2 [] (upd H2 q (.dK (mergeK [] kvs))) := ⟨fun a o h n => by rw [upd_ne (fun z => n (by rw [z]; exact List.mem_append_right _ (List.mem_singleton.mpr rfl)))]; exact h, fun _ h => nomatch h⟩
  have subq : ∀ a ∈ m ++ ms ++ [q], a ∈ av ++ [q] ++ ms := fun a ha => by
    rcases List.mem_append.mp ha with z | z
    · exact R2.sub a z
    · rw [List.mem_singleton.mp z]; simp
  have R3 : Rel (zc X zt) zt.ou (m ++ ms) (av ++ [q] ++ ms) (upd H2 q (.dK (mergeK [] kvs))) S1 := by
    refine R2.evoM W subq (fun b hb c => ?_) (fun a ha u hu => by
      have na : a ≠ q := fun w => nqmm (by rw [← w]; exact ha)
      rw [upd_ne na]; exact hu) (fun a ha => ?_) fun a ha c => ?_
    · rcases List.mem_append.mp hb with z | z
      · exact R2.sto.noCode b z c
      · rw [List.mem_singleton.mp z, hq2]
        exact fun w => absurd (Option.some.inj w) (by unfold LamX.CodeO; exact fun q => nomatch q)
    · by_cases z : a = q
      · rw [z]; exact ⟨_, upd_same⟩
      · obtain ⟨o, ho⟩ := R2.live a ha
        exact ⟨o, by rw [upd_ne z]; exact ho⟩
    · by_cases z : a = q
      · rw [z, upd_same]
        exact fun w => absurd (Option.some.inj w) (by unfold LamX.CodeO; exact fun q => nomatch q)
      · rw [upd_ne z]; exact R2.noc a ha c
  have En3 : EnR (zc X zt) (upd H2 q (.dK (mergeK [] kvs))) (m ++ ms) (av ++ [q] ++ ms) σd σ := by
    have E2' := En0.evo R0 E2
    have := EnR.evo2 (m := m ++ ms) (ms := []) W subq E2'
    rwa [List.append_nil, List.append_nil] at this
  refine hi X zt ok _ takes_no σd σ _ _ _ S1 _ (fun _ _ _ => False) (fun _ _ _ h => h) En3 R3 (post_ok e2 fun ns H4 yv E4 R4 r4 => ?_)
  split at P0
  · rename_i ds j hds
    obtain ⟨xa, e3, P1⟩ := P0.some
    cases e4 : (ks.zip ds).lookup j with
    | none => rw [e4] at e3; cases e3
    | some x =>
      rw [e4] at e3
      simp only [Option.map_some, Option.some.injEq] at e3
      subst e3
      obtain ⟨v, f1, f2⟩ := zip_find (datas_rep r2 hds) e4
      cases r4
      have hq4 : H4 q = some (.dK (mergeK [] kvs)) := E4.keep q _ upd_same nqmm
      have ndk : (kvs.map (·.1)).Nodup := by
        have key : ∀ (ks : List Int) (xs : List V), ks.Nodup → (((ks.map Sum.inl : List Key).zip xs).map (·.1)).Nodup ∧ ∀ z ∈ ((ks.map Sum.inl : List Key).zip xs).map (·.1), z ∈ ks.map Sum.inl := by
          intro ks
          induction ks with
          | nil => intro xs _; exact ⟨List.nodup_nil, fun z hz => hz⟩
          | cons k ks ih =>
            intro xs nd
            cases xs with
            | nil => exact ⟨List.nodup_nil, fun z hz => by simp at hz⟩
            | cons x xs =>
              obtain ⟨i1, i2⟩ := ih xs (List.nodup_cons.mp nd).2
              simp only [List.map_cons, List.zip_cons_cons]
              refine ⟨List.nodup_cons.mpr ⟨fun z => ?_, i1⟩, fun z hz => ?_⟩
              · obtain ⟨k2, h2, h3⟩ := List.mem_map.mp (i2 _ z)
                cases h3
                exact (List.nodup_cons.mp nd).1 h2
              · rcases List.mem_cons.mp hz with hz | hz
                · rw [hz]; exact List.mem_cons_self
                · exact List.mem_cons_of_mem _ (i2 z hz)
        exact (key ks xs nd).1
      have hval : valV (mergeK [] kvs) (Sum.inl j) = some v := by
        rw [merge_key ndk, f1]
      have apart : ∀ {a : Addr} {o : HO}, H a = some o → a ≠ q := fun ha => ne_of_none ha hq
      have keep2 : ∀ {a : Addr} {o : HO}, H a = some o → a ∉ m → H2 a = some o := fun {a o} ha n => E2.keep a o (by rw [upd_ne (apart ha)]; exact ha) n
      have nms : ∀ {a : Addr} {o : HO}, H a = some o → a ∉ ms := fun {a o} ha z => by
        have := E2.new a z
        rw [upd_ne (apart ha), ha] at this; cases this
      have EE : Evo m H (ms ++ ns) H4 := by
        refine ⟨fun a o ha n => E4.keep a o (by rw [upd_ne (apart ha)]; exact keep2 ha n) fun z => (List.mem_append.mp z).elim n (nms ha), fun p hp => ?_⟩
        rcases List.mem_append.mp hp with z | z
        · have := E2.new p z
          have np : p ≠ q := fun e => nqs (e ▸ z)
          rwa [upd_ne np] at this
        · have h4 := E4.new p z
          have np : p ≠ q := fun e => by rw [e, upd_same] at h4; cases h4
          rw [upd_ne np] at h4
          cases w : H p with
          | none => rfl
          | some o =>
            by_cases hm : p ∈ m
            · obtain ⟨u, hu⟩ := R2.live p (R2.sub p (List.mem_append_left _ hm))
              rw [hu] at h4; cases h4
            · rw [keep2 w hm] at h4; cases h4
      have lessv : ∀ a ∈ av ++ (ms ++ ns), a ∈ av ++ [q] ++ ms ++ ns := fun a ha => by
        rcases List.mem_append.mp ha with z | z
        · exact List.mem_append_left _ (List.mem_append_left _ (List.mem_append_left _ z))
        · rcases List.mem_append.mp z with z | z
          · exact List.mem_append_left _ (List.mem_append_right _ z)
          · exact List.mem_append_right _ z
      have RR : Rel (zc X zt) zt.ou (m ++ (ms ++ ns)) (av ++ (ms ++ ns)) H4 S2 := by
        rw [← List.append_assoc]
        refine R4.reav lessv fun a ha => ?_
        rcases List.mem_append.mp ha with z | z
        · rcases List.mem_append.mp z with z | z
          · exact List.mem_append_left _ (R.sub a z)
          · exact List.mem_append_right _ (List.mem_append_left _ z)
        · exact List.mem_append_right _ (List.mem_append_right _ z)
      have t1 := Rep.evo W subq f2
      rw [List.append_nil] at t1
      have t2' := Rep.evo E4 R3.sub t1
      refine ⟨q, v, rfl, ?_, P1.later EE RR (Rep.less lessv t2')⟩
      have := DGet.k (k := Sum.inl j) hq4
      rw [hval] at this
      exact this
  · exact P0.elim
end
end Pv
set_option Elab.async false
set_option maxRecDepth 100000
set_option linter.unusedVariables false
/-! Pv8n: exceptions as values, lambdas. -/
namespace Pv
open PySem PySem.Spec PyProof.Rows L2
section
variable {g : Stat} {N : List Str} {sc : Scope} {d : Nat} {c : Cfg}
theorem exc_at {X : Cx} {zt : Zt} {pins : List (Addr × Obj)} {σ : SL} {H : Hp} {s : Shared} {a dd : Addr} {cls : Value} (I : Inv X pins σ H s) (h : H a = some (ExcH cls dd a)) : ∃ (oe : Obj) (vs : Array Value), s.heap.get? a = some oe ∧ Zc cls (some dd) oe ∧ oe.data = .fields vs := by
  have x : ObjOk X.prog X.w H s.heap a (.ext fun h => ∃ (oe : Obj) (vs : Array Value), h.get? a = some oe ∧ Zc cls (some dd) oe ∧ oe.data = .fields vs) := I.hok a _ h
  exact x.1
theorem lam_at {X : Cx} {pins : List (Addr × Obj)} {σ : SL} {H : Hp} {s : Shared} {a c' : Addr} {L : LamD} {cl : List (Str × Addr)} (I : Inv X pins σ H s) (h : H a = some (LamH L cl a c')) : ∃ (pm ctv : Value), s.heap.get? a = some (PySem.W.kla_obj "<lambda>" L.q L.params L.body L.scope (cloFrom cl L.scope.names []) pm c' ctv) := by
  have x : ObjOk X.prog X.w H s.heap a (.ext fun h => ∃ (pm ctv : Value), h.get? a = some (PySem.W.kla_obj "<lambda>" L.q L.params L.body L.scope (cloFrom cl L.scope.names []) pm c' ctv)) := I.hok a _ h
  exact x.1
theorem inst_of {h : Heap} {a C dd : Addr} {oe od : Obj} {vs : Array Value} (e : h.get? a = some oe) (z : Zc (.ref C) (some dd) oe) (hd : oe.data = .fields vs) (ho : h.get? dd = some od) : PySem.W.InstAt h a oe C (some od) := by
  refine ⟨e, z.1, ?_, ?_⟩
  · unfold PySem.W.notCls; rw [hd] <;> rfl
  · rw [z.2]; exact ho
/-- an exception's value -/
theorem se_exv {a : Expr} {a' : Ex} {p : Pos} (ha : SE g N sc d c a a') (hb : ∀ env, attributeBase a "value" env (eval a env) = eval a env) : SE g N sc d c (.Attribute a "value" p) (.exv a') := by
  intro X zt ok W tk σd σ H m av S Q EX hW En R P
  simp only [ev] at P
  intro pins s I
  refine attr_of (hb _) (thn (ha X zt ok W tk σd σ H m av S (fun v H1 => ∃ x S1 ms, ev c a' σd S = .ok x S1 ∧ Evo m H ms H1 ∧ Rel (zc X zt) zt.ou (m ++ ms) (av ++ ms) H1 S1 ∧ RepA (zc X zt) H1 (m ++ ms) (av ++ ms) x v) EX hW En R (P.into fun x S1 e1 ms H1 v E1 R1 r1 => ⟨x, S1, ms, e1, E1, R1, r1⟩) pins s I) fun u s1 hh => ?_)
  obtain ⟨v, H1, I1, rx, x, S1, ms, e1, E1, R1, r1⟩ := hh
  have P1 := P.step e1 E1 R1
  split at P1
  · obtain ⟨b, C, dd, fs, w, rfl, hC, hH, nb, hx, nd, hl, rw'⟩ := r1
    obtain rfl : u = Value.ref b := rx
    obtain ⟨oe, vs, ho, hz, hd⟩ := exc_at (zt := zt) I1 hH
    obtain ⟨_, T, hno⟩ := ok.exc.cls _ C hC
    have hx' : ObjOk X.prog X.w H1 s1.heap dd (.xd fs) := I1.hok dd _ hx
    obtain ⟨mA, hns, hr⟩ := hx'
    obtain ⟨od, hod, hll⟩ := lookIn_ns hns
    obtain ⟨u2, hu, ru⟩ := RelO.some_of (v := w) (o := mA "value") (by rw [← hl]; exact hr "value")
    have J : PySem.W.InstAt s1.heap b oe C (some od) := inst_of ho hz hd hod
    exact HandSPX.exc_get I1.kIn J T.ga T.gg T.exC (PySem.W.findObj_own T.hdC hno rfl (by rw [hll, hu])) (handed_of ru) ⟨w, H1, I1.tok _, ru, P1.now R1 rw'⟩
  · exact P1.elim
theorem wcl_isi {X : Cx} {zt : Zt} (ok : XOk g N sc d c X zt) {k : Nat} {C b dd : Addr} {cv : V} {cu : Value} {r : Bool} {H : Hp} {Q : VK} (hC : zt.ca k = some C) (hH : H b = some (ExcH (.ref C) dd b)) {fs : List (Str × V)} (hx : H dd = some (.xd fs)) (hcv : ∀ u, RelV cv u → u = cu) (e : PySem.W.kitOne X.K (.ref C) cu = some r) (q : Q (.bl r) H) : wcl X (.builtin "isinstance") [.ref b, cv] H Q := by
  intro pins s σ us I r1
  cases r1 with
  | cons rx rr =>
    cases rr with
    | cons rt rr =>
      cases rr
      cases rx
      have ec := hcv _ rt
      subst ec
      obtain ⟨oe, vs, ho, hz, hd⟩ := exc_at (zt := zt) I hH
      obtain ⟨T, _, _⟩ := ok.exc.cls _ C hC
      have hx' : ObjOk X.prog X.w H s.heap dd (.xd fs) := I.hok dd _ hx
      obtain ⟨mA, ⟨od, _, _, hod, _⟩, _⟩ := hx'
      have J : PySem.W.InstAt s.heap b oe C (some od) := inst_of ho hz hd hod
      have hcl : (PySem.W.clsIn X.K C).isSome = true := by
        have := T.hd
        unfold PySem.W.hasDictIn at this
        cases q : PySem.W.clsIn X.K C with
        | none => rw [q] at this; cases this
        | some _ => rfl
      exact PySem.W.kia_one (PySem.W.kitx_exc hcl T.hg T.hk T.hs T.ha T.hn T.ht T.hm) I.kIn J e (fun z => nomatch z) fun tk => ⟨.bl r, H, I.kept (t' := tk) fun _ _ z => z, rfl, q⟩
theorem se_isC {x : Str} {k : Nat} {a : Expr} {a' : Ex} {p p2 pos : Pos} (hl : ("isinstance" : Str) ∈ g.bl) (h : Gb sc "isinstance") (hx : Gb sc x) (hk : g.cn x = some k) (d1 : (x == ("__debug__" : Str)) = false) (ha : SE g N sc d c a a') (hs : ∀ es env, starEach (a :: es) env = (false, eval a env) :: starEach es env) :
    SE g N sc d c (.Call (.Name "isinstance" p) [a, .Name x p2] [] pos) (.isC a' (g.sb k)) := by
  intro X zt ok W tk σd σ H m av S Q EX hW En R P
  simp only [ev] at P
  obtain ⟨C, hm, hC, _⟩ := ok.exc.made x k hk
  refine we_of (pe_callB (cl_wcl (f := .builtin "isinstance")) (ok.gl h) (ok.bl _ hl) (by decide +kernel) (pa_cons pe_we (pa_cons (pe_glob (v := .ref C) (ok.gl hx) hm rfl d1) pa_nil (by rfl)) (hs _ _)) (by decide) (by decide) (hs _ _) (by rfl)) ?_
  refine ha X zt ok W tk σd σ H m av S _ EX hW En R (P.into fun y S1 e1 ms H1 v E1 R1 r1 => ?_)
  have P1 := P.step e1 E1 R1
  split at P1
  · rename_i k' pl
    obtain ⟨b, C', dd, fs, w, rfl, hC', hH, _, hx', _⟩ := r1
    exact wcl_isi ok hC' hH hx' (fun u z => z) (ok.exc.sub k k' C C' hC hC').2 (P1.now R1 (Rep.bool _))
  · exact P1.elim
theorem se_isV {a : Expr} {a' : Ex} {p p2 pos : Pos} (hl : ("isinstance" : Str) ∈ g.bl) (h : Gb sc "isinstance") (hl2 : ("ValueError" : Str) ∈ g.bl) (h2 : Gb sc "ValueError") (ha : SE g N sc d c a a') (hs : ∀ es env, starEach (a :: es) env = (false, eval a env) :: starEach es env) :
    SE g N sc d c (.Call (.Name "isinstance" p) [a, .Name "ValueError" p2] [] pos) (.isV a') := by
  intro X zt ok W tk σd σ H m av S Q EX hW En R P
  simp only [ev] at P
  refine we_of (pe_callB (cl_wcl (f := .builtin "isinstance")) (ok.gl h) (ok.bl _ hl) (by decide +kernel) (pa_cons pe_we (pa_cons (pe_bltn (v := .ty "ValueError") (ok.gl h2) (ok.bl _ hl2) PyProof.Rows.Boot.«ValueError» rfl (by decide) (by decide)) pa_nil (by rfl)) (hs _ _)) (by decide) (by decide) (hs _ _) (by rfl)) ?_
  refine ha X zt ok W tk σd σ H m av S _ EX hW En R (P.into fun y S1 e1 ms H1 v E1 R1 r1 => ?_)
  have P1 := P.step e1 E1 R1
  split at P1
  · obtain ⟨b, C', dd, fs, w, rfl, hC', hH, _, hx', _⟩ := r1
    exact wcl_isi ok hC' hH hx' (fun u z => z) (ok.exc.ve _ C' hC') (P1.now R1 (Rep.bool _))
  · exact P1.elim
/-- a lambda is called -/
theorem se_callv {x : Str} {p pos : Pos} {i : Nat} (h : N[i]? = some x) (v : Vis sc x) (d1 : (x == ("__debug__" : Str)) = false) (d2 : (x == ("__classdict__" : Str)) = false) : SE g N sc d c (.Call (.Name x p) [] [] pos) (.callv (.v i)) := by
  intro X zt ok W tk σd σ H m av S Q EX hW En R P
  simp only [ev] at P
  intro pins s I
  refine wpAny_Call_Name_kw (thn (se_var h v d1 d2 X zt ok W tk σd σ H m av S (fun u H1 => ∃ y S1 ms, ev c (.v i) σd S = .ok y S1 ∧ Evo m H ms H1 ∧ Rel (zc X zt) zt.ou (m ++ ms) (av ++ ms) H1 S1 ∧ RepA (zc X zt) H1 (m ++ ms) (av ++ ms) y u) EX hW En R (P.into fun y S1 e1 ms H1 u E1 R1 r1 => ⟨y, S1, ms, e1, E1, R1, r1⟩) pins s I) fun u s1 hh => ?_)
  obtain ⟨w, H1, I1, rx, y, S1, ms, e1, E1, R1, r1⟩ := hh
  have P1 := P.step e1 E1 R1
  split at P1
  · rename_i k
    split at P1
    · rename_i hroom
      have r0 := r1
      obtain ⟨b, c', L, rfl, hL, hH, nb, hc', nc'⟩ := r1
      obtain rfl : u = Value.ref b := rx
      obtain ⟨pm, ctv, hf⟩ := lam_at I1 hH
      refine PySem.W.callWith_F0 ⟨_, _, _, _, hf⟩ ?_
      have En1 := En.evo R E1
      obtain ⟨ou', R', L', back⟩ := ok.lams pins σd σ H1 s1 _ _ _ I1 En1 R1
      refine wpAny_call (codeAny_mono (L' X.A X.stack s1 H1 k b _ _ S1 Q EX (ok.room.mono (by rw [← ok.dd]; exact hroom)) ok.gds I1.env0 Un.refl r0 R' (P1.reou back)) fun r s' hq => ?_)
      cases r with
      | error e => exact tk e s' (XE.of_call I1 hW hq)
      | ok fl =>
        cases fl with
        | ret u => exact I1.after hq
        | next => exact False.elim hq
        | brk => exact False.elim hq
        | cont => exact False.elim hq
    · exact P1.elim
  · exact P1.elim
end
end Pv
set_option Elab.async false
set_option maxRecDepth 100000
set_option linter.unusedVariables false
/-! Pv8m: a lambda is made. -/
namespace Pv
open PySem PySem.Spec PyProof.Rows L2
theorem lamH_ok {P : Program} {w : World} {H : Hp} {h : Heap} {f c' : Addr} {L : LamD} {cl : List (Str × Addr)} {pm ctv : Value} (e : h.get? f = some (PySem.W.kla_obj "<lambda>" L.q L.params L.body L.scope (cloFrom cl L.scope.names []) pm c' ctv)) : ObjOk P w H h f (LamH L cl f c') :=
  ⟨⟨pm, ctv, e⟩, ⟨_, e⟩, fun h1 h2 x k => by
    obtain ⟨pm, ctv, e⟩ := x
    exact ⟨pm, ctv, k _ e⟩⟩
section
variable {X : Cx} {pins : List (Addr × Obj)} {σ : SL} {H : Hp} {s : Shared}
/-- the function object is new, and known from now on -/
theorem lam_new {T : List (Addr × Str)} {cd P : Addr} {L : LamD} {pos : Pos} {E Q : Value → Shared → Prop} (I : Inv X pins σ H s) (B : LamX.TabB X.base X.mg cd P) (hcode : X.env.code = .ref cd) (hq : L.q = X.env.qual ++ "<lambda>") (hm : (P, L.q) ∈ T)
    (hu : ∀ p ∈ T, p.1 = P → p.2 = L.q) (hT : LamX.Tabs T H) (hdef : defaultsOf L.params X.env = ([], [])) (hs : LamX.LamS X.env.scope L.scope)
    (k : ∀ (f c' : Addr) (H1 : Hp) (s' : Shared), Inv X pins σ (upd H1 f (LamH L X.env.cells f c')) s' → (∀ b o, H b = some o → b ≠ P → H1 b = some o) → LamX.Tabs T H1 → H1 f = none → H f = none → H1 c' = some (LamX.CodeO c' L.q) → (∀ b, H b = none → H1 b ≠ none → b = c') → Q (.ref f) s') :
    wpAny (model X.prog X.w) X.A (eval (.Lambda L.params L.body L.scope pos) X.env) Q E s := by
  obtain ⟨own, q, params, body, scope⟩ := L
  dsimp only at hq hm hu hdef hs k ⊢
  subst hq
  have hfree := hs.has I.ok
  obtain ⟨ps, hP, trip, among⟩ := hT _ hm
  have atP : s.heap.get? P = some { cls := .none, data := .fields ps } := I.hok P _ hP
  refine PySem.W.kla_eval hdef ?_
  cases hit : codeAmong pos ps.toList with
  | some cv =>
    obtain ⟨c', rfl, hco⟩ := among pos cv hit
    refine PySem.W.kla_makeFunctionHit (mg := X.mg) (c := cd) (P := P) (ps := ps) (closure_ok hfree) I.ok.glob (I.mod.glob.keeps I.bk) hcode (B.code.keeps I.bk) atP trip hit (B.bm.keeps I.bk) fun ctv h' tk kp hge => ?_
    have I0 : Inv X pins σ H { s with heap := h', toks := tk } := I.kept fun b o e => kp b o e
    have I1 := I0.laid (t' := tk) (a := h'.objs.size) (o := LamH ⟨own, X.env.qual ++ "<lambda>", params, body, scope⟩ X.env.cells h'.objs.size c') (h' := h'.push (PySem.W.kla_obj "<lambda>" (X.env.qual ++ "<lambda>") params body scope (cloFrom X.env.cells scope.names []) ((X.mg "__name__").getD .none) c' ctv)) (fun b o e => Heap.get?_push_of_some _ e) (Nat.le_refl _) (lamH_ok (Heap.get?_push_size _ rfl))
    have nf : H h'.objs.size = none := I0.hok.fresh (Nat.le_refl _)
    exact k _ c' H _ I1 (fun _ _ e _ => e) hT nf nf hco fun b h1 h2 => absurd h1 h2
  | none =>
    refine PySem.W.kla_makeFunction (mg := X.mg) (c := cd) (P := P) (ps := ps) (closure_ok hfree) I.ok.glob (I.mod.glob.keeps I.bk) hcode (B.code.keeps I.bk) atP trip hit B.gP (B.bm.keeps I.bk) fun c' ctv h' tk kp hge hlt hrec htb => ?_
    obtain ⟨c2, oc, vs, t, e2, hoc, hd, hv⟩ := hrec
    cases e2
    have nC : H c' = none := I.hok.fresh hge
    have I0 := LamX.inv_table (t' := tk) (more := #[rawInt pos.line, rawInt pos.col, .ref c']) (h' := h') I hP kp htb hge ⟨oc, vs, t, hoc, hd, hv⟩
    have I1 := I0.laid (t' := tk) (a := h'.objs.size) (o := LamH ⟨own, X.env.qual ++ "<lambda>", params, body, scope⟩ X.env.cells h'.objs.size c') (h' := h'.push (PySem.W.kla_obj "<lambda>" (X.env.qual ++ "<lambda>") params body scope (cloFrom X.env.cells scope.names []) ((X.mg "__name__").getD .none) c' ctv)) (fun b o e => Heap.get?_push_of_some _ e) (Nat.le_refl _) (lamH_ok (Heap.get?_push_size _ rfl))
    have nf : upd (upd H P (.tbl (ps ++ #[rawInt pos.line, rawInt pos.col, .ref c']))) c' (LamX.CodeO c' (X.env.qual ++ "<lambda>")) h'.objs.size = none := I0.hok.fresh (Nat.le_refl _)
    have nPc : P ≠ c' := ne_of_none hP nC
    have ext : LamX.ExtN H (upd (upd H P (.tbl (ps ++ #[rawInt pos.line, rawInt pos.col, .ref c']))) c' (LamX.CodeO c' (X.env.qual ++ "<lambda>"))) := fun b o e nt => by
      have h1 : b ≠ c' := ne_of_none e nC
      have h2 : b ≠ P := fun z => by
        rw [z, hP] at e
        exact nt ps (Option.some.inj e).symm
      rw [upd_ne h1, upd_ne h2]
      exact e
    have ext2 : ∀ b o, H b = some o → b ≠ P → upd (upd H P (.tbl (ps ++ #[rawInt pos.line, rawInt pos.col, .ref c']))) c' (LamX.CodeO c' (X.env.qual ++ "<lambda>")) b = some o := fun b o e h2 => by
      rw [upd_ne (ne_of_none e nC), upd_ne h2]; exact e
    have more : (ps ++ #[rawInt pos.line, rawInt pos.col, Value.ref c']).toList = ps.toList ++ [rawInt pos.line, rawInt pos.col, .ref c'] := by simp
    refine k _ c' _ _ I1 ext2 (fun p hp => ?_) nf (I.hok.fresh (Nat.le_trans hge (Nat.le_of_lt hlt))) upd_same fun b h1 h2 => ?_
    · by_cases z : p.1 = P
      · rw [hu p hp z, z]
        refine ⟨_, (upd_ne nPc).trans upd_same, by rw [more]; exact PySem.TriplesOk_snoc _ _ _ _ trip, fun p' cv hcv => ?_⟩
        rw [more] at hcv
        rcases LamX.among_app _ trip hcv with y | y
        · obtain ⟨c0, e1, e3⟩ := among p' cv y
          exact ⟨c0, e1, ext _ _ e3 LamX.codeO_ne⟩
        · exact ⟨c', y, upd_same⟩
      · obtain ⟨qs, a1, a2, a3⟩ := hT p hp
        refine ⟨qs, ?_, a2, fun p' cv hcv => ?_⟩
        · rw [upd_ne (ne_of_none a1 nC), upd_ne z]; exact a1
        · obtain ⟨c0, e1, e3⟩ := a3 p' cv hcv
          exact ⟨c0, e1, ext _ _ e3 LamX.codeO_ne⟩
    · by_cases z : b = c'
      · exact z
      · rw [upd_ne z] at h2
        by_cases y : b = P
        · rw [y, hP] at h1; cases h1
        · rw [upd_ne y] at h2; exact absurd h1 h2
end
theorem tabs_of {Z : Kc} {H : Hp} {M av : List Addr} {S : Sto} {m : List Addr} (r : StoR Z H M av S m) : ∃ T : List (Addr × Str), LamX.Tabs T H ∧ (∀ (i j : Nat), S[i]? = some (O.tab j) → ∃ a q, m[i]? = some a ∧ Z.tb j = some (a, q) ∧ (a, q) ∈ T) ∧
    ∀ p ∈ T, ∃ (i j : Nat), m[i]? = some p.1 ∧ S[i]? = some (O.tab j) ∧ Z.tb j = some p := by
  induction r with
  | nil => exact ⟨[], (fun p hp => nomatch hp), (fun i j h => by simp at h), fun p hp => nomatch hp⟩
  | @cons o S a m h r ih =>
    obtain ⟨T, h1, h2, h3⟩ := ih
    have up : ∀ p ∈ T, ∃ (i j : Nat), (a :: m)[i]? = some p.1 ∧ (o :: S)[i]? = some (.tab j) ∧ Z.tb j = some p := fun p hp => by
      obtain ⟨i, j, e1, e2, e3⟩ := h3 p hp
      exact ⟨i + 1, j, by simpa using e1, by simpa using e2, e3⟩
    cases o with
    | tab j =>
      obtain ⟨q, e1, e2⟩ := h
      refine ⟨(a, q) :: T, fun p hp => ?_, fun i j' hi => ?_, fun p hp => ?_⟩
      · rcases List.mem_cons.mp hp with rfl | hp
        · exact e2
        · exact h1 p hp
      · cases i with
        | zero =>
          simp only [List.getElem?_cons_zero, Option.some.injEq, O.tab.injEq] at hi
          subst hi
          exact ⟨a, q, rfl, e1, List.mem_cons_self⟩
        | succ i =>
          obtain ⟨b, q', f1, f2, f3⟩ := h2 i j' (by simpa using hi)
          exact ⟨b, q', by simpa using f1, f2, List.mem_cons_of_mem _ f3⟩
      · rcases List.mem_cons.mp hp with rfl | hp
        · exact ⟨0, j, rfl, rfl, e1⟩
        · exact up p hp
    | lst ds =>
      refine ⟨T, h1, fun i j' hi => ?_, up⟩
      cases i with
      | zero => simp at hi
      | succ i =>
        obtain ⟨b, q', f1, f2, f3⟩ := h2 i j' (by simpa using hi)
        exact ⟨b, q', by simpa using f1, f2, f3⟩
    | lsa ds =>
      refine ⟨T, h1, fun i j' hi => ?_, up⟩
      cases i with
      | zero => simp at hi
      | succ i =>
        obtain ⟨b, q', f1, f2, f3⟩ := h2 i j' (by simpa using hi)
        exact ⟨b, q', by simpa using f1, f2, f3⟩
theorem StoR.impI {Z Z' : Kc} {H H' : Hp} {M M' av av' : List Addr} : ∀ {S : Sto} {m : List Addr}, (∀ (i : Nat) (o : O) (a : Addr), S[i]? = some o → m[i]? = some a → ObjR Z H M av o a → ObjR Z' H' M' av' o a) → StoR Z H M av S m → StoR Z' H' M' av' S m := by
  intro S m f r
  induction r with
  | nil => exact .nil
  | cons h r ih => exact .cons (f 0 _ _ rfl rfl h) (ih fun i o a y z => f (i + 1) o a (by simpa using y) (by simpa using z))
theorem nodup_at {m : List Addr} (nd : m.Nodup) {i j : Nat} {a : Addr} (h1 : m[i]? = some a) (h2 : m[j]? = some a) : i = j := by
  obtain ⟨l1, e1⟩ := List.getElem?_eq_some_iff.mp h1
  obtain ⟨l2, e2⟩ := List.getElem?_eq_some_iff.mp h2
  exact (List.getElem_inj (h₀ := l1) (h₁ := l2) nd).mp (e1.trans e2.symm)
section
variable {g : Stat} {N : List Str} {sc : Scope} {d : Nat} {c : Cfg}
theorem se_mk {params : Arguments} {body : Expr} {scope : Scope} {pos : Pos} {k t j : Nat} {L : LamD} (hl : g.lm k = some L) (ho : L.own = j) (e1 : L.params = params) (e2 : L.body = body) (e3 : L.scope = scope) (hs : LamX.lamSB sc scope = true) (hd : params.defaults = [] ∧ params.kw_defaults = []) : SE g N sc d c (.Lambda params body scope pos) (.mk k t j) := by
  subst e1 e2 e3
  intro X zt ok W tk σd σ H m av S Q EX hW En R P
  simp only [ev] at P
  split at P
  · rename_i hj
    split at P
    · rename_i j' hS
      split at P
      · rename_i hjj
        subst hjj
        obtain ⟨cd, P0, q, hcode, B, htb, hqq, hcl, hall⟩ := ok.tab _ hj
        have hLq : L.q = q := hall k L hl ho
        obtain ⟨T, t1, t2, t3⟩ := tabs_of R.sto
        obtain ⟨a, q', f1, f2, f3⟩ := t2 t _ hS
        have e5 : (P0, q) = (a, q') := by
          have f2' : zt.tb _ = some (a, q') := f2
          rw [htb] at f2'; exact Option.some.inj f2'
        cases e5
        have hdef : defaultsOf L.params X.env = ([], []) := by
          obtain ⟨h1, h2⟩ := hd
          cases hp : L.params with
          | mk a1 a2 a3 a4 a5 a6 a7 =>
            rw [hp] at h1 h2
            simp only at h1 h2
            subst h1 h2
            rfl
        intro pins s I
        have hP : ∃ ps, H P0 = some (.tbl ps) := by
          obtain ⟨ps, h1, _⟩ := t1 _ f3
          exact ⟨ps, h1⟩
        obtain ⟨ps, hP⟩ := hP
        have hPm : P0 ∈ m := List.mem_of_getElem? f1
        refine lam_new (T := T) (P := P0) I B hcode (by rw [hLq]; exact hqq) (by rw [hLq]; exact f3) (fun p hp hpe => ?_) t1 hdef (LamX.lamS_by (by rw [ok.sc_]; exact hs)) fun f c' H1 s' I1 kp T1 nf nfH hco hnew => ?_
        · obtain ⟨i2, j2, g1, g2, g3⟩ := t3 p hp
          rw [hpe] at g1
          have := nodup_at R.nd g1 f1
          subst this
          rw [hS] at g2
          simp only [Option.some.injEq, O.tab.injEq] at g2
          subst g2
          have g3' : zt.tb _ = some p := g3
          rw [htb] at g3'
          rw [hLq]
          exact (congrArg Prod.snd (Option.some.inj g3')).symm
        · have k2 : ∀ b o, H b = some o → b ≠ P0 → upd H1 f (LamH L X.env.cells f c') b = some o := fun b o e h => by
            have hb : b ≠ f := ne_of_none e nfH
            rw [upd_ne hb]; exact kp b o e h
          have nfP : P0 ≠ f := ne_of_none hP nfH
          have E : Evo m H [] (upd H1 f (LamH L X.env.cells f c')) := ⟨fun b o e h => k2 b o e fun z => h (by rw [z]; exact hPm), fun _ h => nomatch h⟩
          have tabP : ∀ p ∈ T, LamX.TabS (upd H1 f (LamH L X.env.cells f c')) p.1 p.2 := fun p hp => by
            refine TabS.stay (T1 p hp) fun b hb o ho => ?_
            have : b ≠ f := ne_of_none ho nf
            rw [upd_ne this]; exact ho
          have R1 : Rel (zc X zt) zt.ou m av (upd H1 f (LamH L X.env.cells f c')) S := by
            refine ⟨R.sub, fun b hb => ?_, fun b hb cq => ?_, R.nd, ?_, fun p hp => ?_⟩
            · by_cases z : b = P0
              · rw [z]
                obtain ⟨ps', h1, _⟩ := tabP _ f3
                exact ⟨_, h1⟩
              · obtain ⟨o, ho⟩ := R.live b hb
                exact ⟨o, k2 b o ho z⟩
            · by_cases z : b = P0
              · rw [z]
                obtain ⟨ps', h1, _⟩ := tabP _ f3
                rw [h1]
                exact fun w => absurd (Option.some.inj w) (by unfold LamX.CodeO; exact fun q => nomatch q)
              · obtain ⟨o, ho⟩ := R.live b hb
                rw [k2 b o ho z, ← ho]; exact R.noc b hb cq
            · refine R.sto.impI fun i3 o b hi3 hb x => ?_
              cases o with
              | lst ds =>
                obtain ⟨vs, h1, h2⟩ := x
                have t' := RepAll.evo E R.sub h2
                rw [List.append_nil] at t'
                exact ⟨vs, k2 b _ h1 (fun z => by rw [z, hP] at h1; cases h1), t'⟩
              | lsa as =>
                obtain ⟨vs, h1, h2⟩ := x
                have t' := RepL.evo0 R.sub E h2
                rw [List.append_nil, List.append_nil] at t'
                exact ⟨vs, k2 b _ h1 (fun z => by rw [z, hP] at h1; cases h1), t'⟩
              | tab jj =>
                obtain ⟨q2, h1, h2⟩ := x
                by_cases z : b = P0
                · subst z
                  have hq2 : q2 = q := by
                    have := nodup_at R.nd hb f1
                    subst this
                    rw [hS] at hi3
                    simp only [Option.some.injEq, O.tab.injEq] at hi3
                    subst hi3
                    have h1' : zt.tb _ = some (b, q2) := h1
                    rw [htb] at h1'
                    exact (congrArg Prod.snd (Option.some.inj h1')).symm
                  subst hq2
                  exact ⟨_, h1, tabP _ f3⟩
                · refine ⟨q2, h1, TabS.stay h2 fun b' hb' o' ho' => ?_⟩
                  rcases hb' with rfl | ⟨cc, hcc⟩
                  · exact k2 _ _ ho' z
                  · exact k2 _ _ ho' (fun y => by
                      rw [y, hP] at hcc
                      exact absurd (Option.some.inj hcc) (by unfold LamX.CodeO; exact fun q => nomatch q))
            · have := EnR.evo0 R.sub E (R.ou p hp)
              rwa [List.append_nil, List.append_nil] at this
          have navF : f ∉ av := fun z => by
            obtain ⟨u, hu⟩ := R.live f z
            rw [nfH] at hu; cases hu
          have hc2 : upd H1 f (LamH L X.env.cells f c') c' = some (LamX.CodeO c' L.q) := by
            rw [upd_ne (ne_of_none hco nf)]; exact hco
          have navC : c' ∉ av := fun z => R1.noc c' z _ hc2
          refine ⟨.ref f, _, I1, rfl, P.later (ms := []) E (by rw [List.append_nil, List.append_nil]; exact R1) ?_⟩
          rw [List.append_nil, List.append_nil]
          exact ⟨f, c', L, rfl, by show zt.lm k = some L; rw [ok.lm]; exact hl, by show _ = some (LamH L zt.cl f c'); rw [hcl]; exact upd_same, navF, hc2, navC⟩
      · exact P.elim
    · exact P.elim
  · exact P.elim
end
end Pv
set_option Elab.async false
set_option maxRecDepth 100000
set_option linter.unusedVariables false
/-! Pv8r: xs[::-1], of a list, of a tuple. -/
namespace Pv
open PySem PySem.Spec PyProof.Rows L2
theorem places_rev (n : Nat) : Builtin.Slice.slicePlaces ((n : Int) - 1) (-1) (-1) = n := by
  unfold Builtin.Slice.slicePlaces
  have h1 : ¬ ((-1 : Int) > 0) := by omega
  simp only [h1, if_false]
  split
  · simp only [Int.neg_neg, Int.ediv_one]; omega
  · omega
theorem adjust_rev (n : Nat) : Builtin.Slice.sliceAdjust none none (-1) (n : Int) = ((n : Int) - 1, -1) := by
  unfold Builtin.Slice.sliceAdjust
  have h1 : ((-1 : Int) < 0) := by omega
  simp only [h1, if_true]
theorem fm_congr {α β : Type} {f g : α → Option β} : ∀ (l : List α), (∀ m ∈ l, f m = g m) → l.filterMap f = l.filterMap g
  | [], _ => rfl
  | a :: l, h => by
    rw [List.filterMap_cons, List.filterMap_cons, h a List.mem_cons_self, fm_congr l fun m hm => h m (List.mem_cons_of_mem _ hm)]
theorem pick_rev (xs : Array Value) : ((List.range xs.size).filterMap fun (m : Nat) => xs[(((xs.size : Nat) : Int) - 1 + (m : Int) * -1).toNat]?).toArray = xs.toList.reverse.toArray := by
  congr 1
  have e : ∀ m ∈ List.range xs.size, xs[(((xs.size : Nat) : Int) - 1 + (m : Int) * -1).toNat]? = (xs.toList.reverse.toArray)[0 + m]? := fun m hm => by
    have hlt := List.mem_range.mp hm
    have : (((xs.size : Nat) : Int) - 1 + (m : Int) * -1).toNat = xs.size - 1 - m := by omega
    rw [this, Nat.zero_add]
    have e3 : (xs.toList.reverse.toArray)[m]? = xs.toList.reverse[m]? := by simp
    rw [e3, List.getElem?_reverse (by simpa using hlt), Array.getElem?_toList]
    simp
  rw [fm_congr _ e]
  have h := pick_run (xs.toList.reverse.toArray) 0 xs.size
  rw [List.filterMap_map] at h
  have e2 : ((fun x => (xs.toList.reverse.toArray)[x]?) ∘ fun x => 0 + x) = fun m => (xs.toList.reverse.toArray)[0 + m]? := rfl
  rw [e2] at h
  rw [h]
  simp only [List.drop_zero]
  exact List.take_of_length_le (by simp)
section
variable {prog : Program} {w : World} {A : Around} {E : Value → Shared → Prop} {s : Shared}
theorem applied_rev {sl : Addr} {vl vu vs : Value} {n : Nat} {Q : Int × Int × Nat → Shared → Prop} (hs : s.heap.IsSliceOf sl vl vu vs) (pl : IsPart vl none) (pu : IsPart vu none) (ps : IsPart vs (some (-1)))
    (h : Q ((n : Int) - 1, -1, n) s) : wpAny (model prog w) A (Builtin.Slice.sliceApplied (.ref sl) (pure (n : Int))) Q E s := by
  obtain ⟨os, ho, hc, hd⟩ := id hs
  unfold Builtin.Slice.sliceApplied Builtin.Slice.sliceFields
  refine wpAny_bind (wpAny_bind (wpAny_field ho hd (x := vl) rfl (wpAny_bind (wpAny_field ho hd (x := vu) rfl (wpAny_bind (wpAny_field ho hd (x := vs) rfl (wpAny_pure ?_)))))))
  refine wpAny_bind (HT.slicePart_ ps ?_)
  show wpAny _ _ (if ((-1 : Int) == 0) = true then _ else _) _ _ s
  rw [if_neg (by decide)]
  refine wpAny_bind (HT.slicePart_ pl (wpAny_bind (HT.slicePart_ pu (wpAny_bind (wpAny_pure ?_)))))
  show wpAny _ _ (match Builtin.Slice.sliceAdjust none none (-1) (n : Int) with | (lo, hi) => pure (lo, (-1 : Int), Builtin.Slice.slicePlaces lo hi (-1))) _ _ s
  rw [adjust_rev n]
  show wpAny _ _ (pure ((n : Int) - 1, (-1 : Int), Builtin.Slice.slicePlaces ((n : Int) - 1) (-1) (-1))) _ _ s
  rw [places_rev]
  exact wpAny_pure h
theorem getItem_tuple_rev {t sl : Addr} {items : Array Value} {vl vu vs : Value} {Q : Value → Shared → Prop} (ht : IsTup s.heap t items) (hs : s.heap.IsSliceOf sl vl vu vs) (pl : IsPart vl none) (pu : IsPart vu none) (ps : IsPart vs (some (-1)))
    (h : Q (.ref s.heap.objs.size) { s with heap := s.heap.push { cls := .type "tuple", data := .seq items.toList.reverse.toArray } }) (hsz : items.size ≤ sizeLine) : wpAny (model prog w) A (getItem (.ref t) (.ref sl)) Q E s := by
  have fits : sizeOk (.seq items.toList.reverse.toArray) := by
    show items.toList.reverse.toArray.size ≤ sizeLine
    rw [List.size_toArray, List.length_reverse, Array.length_toList]; exact hsz
  obtain ⟨os, ho, hc, hd⟩ := id hs
  have ty : s.TypeIs (.ref sl) "slice" := ⟨os, ho, hc⟩
  unfold getItem
  try with_reducible refine wpAny_holding ?_
  first | refine wpAny_bind (wpAny_pure ?_) | skip
  refine wpAny_bind (wpAny_sequenceKey ht.typeIs (by decide) ?_)
  refine wpAny_bind (wpAny_callSpecial?_slot (name := Str.ofString "__getitem__") ht.typeIs slot_tuple_getitem (wpAny_call_entry slot_tuple_getitem ht.typeIs PyProof.Rows.entry_tuple_getitem ?_ (PyProof.Rows.args_tuple_getitem _ _)))
  show wpAny _ _ (Builtin.Tuple.tupleItemsOf (.ref t) >>= _) _ _ s
  refine wpAny_bind (PyProof.Rows.tupleItemsOf_ ht (wpAny_bind (wpAny_typeOf ty ?_)))
  rw [if_pos (by decide)]
  refine wpAny_bind (applied_rev hs pl pu ps ?_)
  have no : ¬ ((((items.size : Nat) : Int) - 1 == 0 && (-1 : Int) == 1 && items.size == items.size) = true) := by
    intro q
    rw [Bool.and_eq_true, Bool.and_eq_true] at q
    exact absurd (eq_of_beq q.1.2) (by decide)
  show wpAny _ _ (if (((items.size : Nat) : Int) - 1 == 0 && (-1 : Int) == 1 && items.size == items.size) = true then _ else _) _ _ s
  rw [if_neg no, pick_rev]
  first
    | exact wpAny_bind (m := Builtin.Tuple.tupleExact _) (wpAny_newObj_type (wpAny_pure ⟨_, rfl, wpAny_pure h⟩) fits)
    | exact wpAny_bind (m := Builtin.Tuple.tupleExact _) (wpAny_newObj_type (wpAny_bind (wpAny_pure (wpAny_pure ⟨_, rfl, wpAny_pure h⟩))) fits)
    | exact wpAny_bind (wpAny_bind (m := Builtin.Tuple.tupleExact _) (wpAny_newObj_type (wpAny_pure (wpAny_pure ⟨_, rfl, wpAny_pure h⟩)) fits))
    | exact wpAny_bind (wpAny_bind (m := Builtin.Tuple.tupleExact _) (wpAny_newObj_type (wpAny_pure ⟨_, rfl, wpAny_pure h⟩) fits))
end
def tRevT (K : PySem.W.Frag) (te : TE) : TE := fun σ H Q => te σ H fun x H1 => ∃ a xs, x = .ref a ∧ ((SqL K H1 a xs ∧ ∀ p, H1 p = none → Q (.ref p) (upd H1 p (.lst xs.reverse))) ∨ (SqT K H1 a xs ∧ ∀ p, H1 p = none → Q (.ref p) (upd H1 p (.tup xs.reverse))))
theorem pe_revT {X : Cx} {e : Expr} {te : TE} {k : Nat} {p1 p2 p3 pos : Pos} (he : PE X e te) : PE X (.Subscript e (.Slice none none (some (.UnaryOp .USub (.Constant (.int 1) k p1) p2)) p3) pos) (tRevT X.K te) := by
  refine ⟨fun pins s σ H Q I h => ?_⟩
  refine Subscript_ (thn (he.run pins s σ H _ I h) fun v s1 ⟨x, H1, I1, r1, q1⟩ => ?_)
  obtain ⟨a, xs, rfl, q⟩ := q1
  cases r1
  have step : PO X (some (.UnaryOp .USub (.Constant (.int 1) k p1) p2)) (tPart (tUn (rU fun i => .int (-i)) (tC (.int 1)))) := po_some (pe_un un_neg pe_int)
  refine wpAny_Slice (thn (po_none.run pins s1 σ H1 (fun o G => o = none ∧ G = H1) I1 ⟨rfl, rfl⟩) fun vl s2 ⟨l, H2, I2, pl, el, e2⟩ => ?_)
  subst el e2
  refine thn (po_none.run pins s2 σ H2 (fun o G => o = none ∧ G = H2) I2 ⟨rfl, rfl⟩) fun vu s3 ⟨u, H3, I3, pu, eu, e3⟩ => ?_
  subst eu e3
  refine thn (step.run pins s3 σ H3 (fun o G => o = some (-1) ∧ G = H3) I3 ⟨1, rfl, -1, rfl, rfl, rfl⟩) fun vs s4 ⟨o, H4, I4, ps, eo, e4⟩ => ?_
  subst eo e4
  have I5 : Inv X pins σ H4 { s4 with heap := s4.heap.push { cls := .type "slice", data := .fields #[vl, vu, vs] } } := I4.kept (t' := s4.toks) fun b ob q => Heap.get?_push_of_some _ q
  show wpAny (model X.prog X.w) X.A (subscriptTail e (.Slice none none (some (.UnaryOp .USub (.Constant (.int 1) k p1) p2)) p3) (.ref a) (.ref s4.heap.objs.size)) (EP X pins σ Q) X.xe { s4 with heap := s4.heap.push { cls := .type "slice", data := .fields #[vl, vu, vs] } }
  rcases q with ⟨hx, q⟩ | ⟨hx, q⟩
  · obtain ⟨its, r, ht, hz⟩ := I5.list hx
    have hlen := r.length
    refine tail_any (ops := [.ref a, .ref s4.heap.objs.size]) ht.isList.typeIs (PySem.slot_list_getitem.lookup) ?_ (by with_unfolding_all rfl)
    refine wpAny_getItem_list_slice ht.isList (Heap.IsSliceOf.new _ vl vu vs) pl pu ps (by decide) ?_ (by rw [List.size_toArray]; omega)
    rw [PySem.W.krv_pick]
    exact ⟨.ref _, _, I5.laid (t' := s4.toks) (o := .lst xs.reverse) (fun b ob q => Heap.get?_push_of_some _ q) (Nat.le_refl _) ⟨by rw [List.length_reverse]; exact hz, _, 0, r.reverse, Heap.get?_push_size _ rfl⟩, rfl, q _ (I5.hok.fresh (Nat.le_refl _))⟩
  · obtain ⟨its, r, ht, hz⟩ := I5.tuple hx
    have hlen := r.length
    refine tail_any (ops := [.ref a, .ref s4.heap.objs.size]) ht.typeIs (slot_tuple_getitem.lookup) ?_ (by with_unfolding_all rfl)
    refine getItem_tuple_rev ht (Heap.IsSliceOf.new _ vl vu vs) pl pu ps ?_ (by rw [List.size_toArray]; omega)
    exact ⟨.ref _, _, I5.laid (t' := s4.toks) (o := .tup xs.reverse) (fun b ob q => Heap.get?_push_of_some _ q) (Nat.le_refl _) ⟨by rw [List.length_reverse]; exact hz, _, r.reverse, IsTup.new _ _⟩, rfl, q _ (I5.hok.fresh (Nat.le_refl _))⟩
section
variable {g : Stat} {N : List Str} {sc : Scope} {d : Nat} {c : Cfg}
theorem RepAll.rev {K : PySem.W.Frag} {H : Hp} {av : List Addr} : ∀ {ds : List PyData} {vs : List V}, RepAll K H av ds vs → RepAll K H av ds.reverse vs.reverse
  | _, _, .nil => .nil
  | _, _, .cons h r => by
    rw [List.reverse_cons, List.reverse_cons]
    exact r.rev.append (.cons h .nil)
theorem se_rev {a : Expr} {a' : Ex} {p p1 p2 p3 : Pos} {j : Nat} (ha : SE g N sc d c a a') : SE g N sc d c (.Subscript a (.Slice none none (some (.UnaryOp .USub (.Constant (.int 1) j p1) p2)) p3) p) (.rev a') := by
  intro X zt ok W tk σd σ H m av S Q EX hW En R P
  simp only [ev] at P
  refine we_of (pe_revT pe_we) ?_
  refine ha X zt ok W tk σd σ H m av S _ _ hW En R (P.into fun x S1 e1 ms H1 v E1 R1 r1 => ?_)
  have P1 := P.step e1 E1 R1
  obtain ⟨z, e2, P2⟩ := P1.some
  cases e3 : rd S1 x with
  | none => rw [e3] at e2; cases e2
  | some y =>
    rw [e3, Option.bind_some] at e2
    have ry := rd_rep R1 r1 e3
    unfold revD at e2
    split at e2
    · simp only [Option.map_some, Option.some.injEq] at e2
      subst e2
      obtain ⟨b, vs, rfl, hq, t⟩ := ry.lst
      refine ⟨b, vs, rfl, .inl ⟨hq, fun q hq => ?_⟩⟩
      obtain ⟨E2, R2, nq⟩ := R1.laid (o := .lst vs.reverse) hq
      refine P2.later (ms := []) E2 (by rw [List.append_nil, List.append_nil]; exact R2) ?_
      have t' := RepAll.evo E2 R1.sub t.rev
      rw [List.append_nil] at t'
      rw [List.append_nil, List.append_nil]
      exact Rep.lstH (.inl upd_same) nq t'
    · simp only [Option.map_some, Option.some.injEq] at e2
      subst e2
      obtain ⟨b, vs, rfl, hq, t⟩ := ry.tup
      refine ⟨b, vs, rfl, .inr ⟨hq, fun q hq => ?_⟩⟩
      obtain ⟨E2, R2, nq⟩ := R1.laid (o := .tup vs.reverse) hq
      refine P2.later (ms := []) E2 (by rw [List.append_nil, List.append_nil]; exact R2) ?_
      have t' := RepAll.evo E2 R1.sub t.rev
      rw [List.append_nil] at t'
      rw [List.append_nil, List.append_nil]
      exact Rep.tupH (.inl upd_same) nq t'
    · cases e2
end
end Pv
set_option Elab.async false
set_option maxRecDepth 100000
set_option linter.unusedVariables false
/-! Pv8z: an expression's meaning is what the machine does. -/
namespace Pv
open PySem PySem.Spec PyProof.Rows L2
/-! ### all together -/
section
variable {g : Stat} {N : List Str} {d : Nat}
theorem conds {c : Cfg} {sc : Scope} {cs : List Expr} {cs' : Exs} (h : TrEs g N sc cs cs') (h1 : cs.length ≤ 1) (k : ∀ q q', TrE g N sc q q' → cs = [q] → cs' = .cons q' .nil → ST g N sc d c q q') : (cs = [] ∧ cs' = .nil) ∨ ∃ q q', cs = [q] ∧ cs' = .cons q' .nil ∧ ST g N sc d c q q' := by
  cases h with
  | nil => exact .inl ⟨rfl, rfl⟩
  | cons h r =>
    cases r with
    | nil => exact .inr ⟨_, _, rfl, rfl, k _ _ h rfl rfl⟩
    | cons _ _ => simp at h1
theorem TrI.foldedI {sc : Scope} {tg it : Expr} {i : Itr} (h : TrI g N sc tg it i) (env : Env) (v : Value) : foldedSetIterable it env v = pure v := by
  cases h with
  | e h => exact h.folded env v
  | _ => rfl
theorem frE_true {e : Expr} (h : isFrE e = true) : ∀ (env : Env) whole, isTrue e env whole = (do let v ← whole; standAt e.pos; holding [v] (truthy v)) := by
  cases e <;> first | exact fun _ _ => rfl | exact nomatch h
theorem frE_bool {e : Expr} (h : isFrE e = true) : isBool e = false := by
  cases e <;> first | rfl | exact nomatch h
theorem nm_base {e : Expr} (h : isNm e = true) (env : Env) : attributeBase e "value" env (eval e env) = eval e env := by
  cases e <;> first | rfl | exact nomatch h
theorem sef_one {c : Cfg} {sc : Scope} {op : BoolOp} {a : Expr} {a' : Ex} {p : Pos} (ha : SEF g N sc d c a a') : SEF g N sc d c (.BoolOp op [a] p) a' :=
  fun X zt ok W tk σd σ H m av S Q EX hW En R P => we_of (pe_one pe_we) (ha X zt ok W tk σd σ H m av S Q _ hW En R P)
theorem TrEs.star1 {sc : Scope} {e : Expr} {es : List Expr} {xs : Exs} (h : TrEs g N sc (e :: es) xs) : ∀ env, starEach (e :: es) env = (false, eval e env) :: starEach es env := by
  cases h with | cons h1 h2 => exact h1.star _
theorem TrEs.stars1 {sc : Scope} {e : Expr} {es : List Expr} {xs : Exs} (h : TrEs g N sc (e :: es) xs) : ∀ (pos : Pos) (env : Env), ((backTo pos (starEach es env)).any fun x => x.1) = false := by
  cases h with | cons h1 h2 => exact h2.stars
theorem si_rngE {c : Cfg} {sc : Scope} {tg e : Expr} {es : List Expr} {xs : Exs} {p p2 : Pos} (hl : ("range" : Str) ∈ g.bl) (h : Gb sc "range") (t : TrEs g N sc (e :: es) xs) (hs : SA g N sc d c (e :: es) xs) (h3 : es.length ≤ 2) : SI g N sc d c tg (.Call (.Name "range" p) (e :: es) [] p2) (.rng xs) := by
  cases t with
  | cons h1 r =>
    cases r with
    | nil => exact si_rng1 hl h hs (fun env => h1.star _ env)
    | cons h2 r =>
      cases r with
      | nil => exact si_rng2 hl h hs (fun env => by rw [h1.star, h2.star]; rfl) (fun env => by rw [h2.star]; rfl)
      | cons h4 r =>
        cases r with
        | nil => exact si_rng3 hl h hs (fun env => h1.star _ env) (fun pos env => by rw [h2.star, h4.star]; rfl)
        | cons _ _ => simp at h3
mutual
theorem TrE.snd : ∀ {c : Cfg} {sc : Scope} {e : Expr} {i : Ex}, TrE g N sc e i → Snd g N sc d c e i
  | _, _, _, _, .var h v d1 d2 => .mk' (se_var h v d1 d2) (fun _ _ => rfl) rfl
  | _, _, _, _, .int => .mk' (se_const (fun _ => pe_int) (fun _ _ _ => .int _)) (fun _ _ => rfl) rfl
  | _, _, _, _, .bool => .mk' (se_const (fun _ => pe_bl) (fun _ _ _ => .bool _)) (fun _ _ => rfl) rfl
  | _, _, _, _, .non => .mk' (se_const (fun _ => pe_non) (fun _ _ _ => .non)) (fun _ _ => rfl) rfl
  | _, _, _, _, .str => .mk' (se_const (fun _ => pe_str) (fun _ _ _ => .str _)) (fun _ _ => rfl) rfl
  | _, _, _, _, .glob h hg d1 => .mk' (se_glob h hg d1) (fun _ _ => rfl) rfl
  | _, _, _, _, .bin o ha hb => .mk' (se_bin o ha.snd.v hb.snd.v) (fun _ _ => rfl) rfl
  | _, _, _, _, .neg ha => .mk' (se_neg ha.snd.v) (fun _ _ => rfl) rfl
  | _, _, _, _, .not ha => snd_not ha.snd
  | _, _, _, _, .cmp o ha hb => snd_cmp o ha.snd.v hb.snd.v
  | _, _, _, _, .chain o o' ha hb he => snd_chain o o' ha.snd.v hb.snd.v he.snd.v
  | _, _, _, _, .one ha => se_one ha.snd
  | _, _, _, _, .and ha hr => snd_and ha.snd hr.snd
  | _, _, _, _, .or ha hr => snd_or ha.snd hr.snd
  | _, _, _, _, .ite ht ha hb => ⟨se_ite ht.snd.t ha.snd.v hb.snd.v, st_ite ht.snd.t ha.snd.t hb.snd.t, fun z => nomatch z⟩
  | _, _, _, _, .tup h hl => .mk' (se_tup h.snds (by rw [h.len]; exact hl)) (fun _ _ => rfl) rfl
  | _, _, _, _, .lst h hl => .mk' (se_lst h.snds (by rw [h.len]; exact hl)) (fun _ _ => rfl) rfl
  | _, _, _, _, .lstM h hl => .mk' (se_lstM h.snds (by rw [h.len]; exact hl)) (fun _ _ => rfl) rfl
  | _, _, _, _, .call h hf d1 hs => .mk' (se_call h hf d1 hs.snds hs.star1 hs.stars1) (fun _ _ => rfl) rfl
  | _, _, _, _, .call0 h hf d1 => .mk' (se_call0 h hf d1) (fun _ _ => rfl) rfl
  | _, _, _, _, .callK h hf hk d1 hs => .mk' (se_callK h hf hk d1 hs.sndk) (fun _ _ => rfl) rfl
  | _, _, _, _, .biF f hf hx hb hl h d1 d2 hs => .mk' (se_biF f hf hx hb hl h d1 d2 hs.snds hs.star1 hs.stars1) (fun _ _ => rfl) rfl
  | _, _, _, _, .biT f hf nr hb hl h d1 d2 hs => .mk' (se_biT f hf nr hb hl h d1 d2 hs.snds hs.star1 hs.stars1) (fun _ _ => rfl) rfl
  | _, _, _, _, .biI f hf hi h d1 hs => .mk' (se_biI f hf hi h d1 hs.snds hs.star1 hs.stars1) (fun _ _ => rfl) rfl
  | _, _, _, _, .isi f hf hT hb hl hl2 h h2 d1 d2 he => .mk' (se_isi f hf hT hb hl hl2 h h2 d1 d2 he.snd.v he.star) (fun _ _ => rfl) rfl
  | _, _, _, _, .lrange hl hl2 h h2 he => .mk' (se_lrange hl hl2 h h2 he.snd.v he.star) (fun _ _ => rfl) rfl
  | _, _, _, _, .ix ha hb => .mk' (se_ix ha.snd.v hb.snd.v hb.plainIx) (fun _ _ => rfl) rfl
  | _, _, _, _, .dix hk nd h15 h0 hl hv hi => .mk' (se_dix hk nd h15 h0 hl hv.sndv hi.snd.v hi.noSl) (fun _ _ => rfl) rfl
  | _, _, _, _, .slice ha hl hh => .mk' (se_slice ha.snd.v hl.sndo hh.sndo) (fun _ _ => rfl) rfl
  | _, _, _, _, .lc own hb ht hi he hc h1 hin => .mk' (SE.of_SEF (sef_lc own hb ht hi.sndi he.snd.v (hc.sndc h1) h1 hin hi.foldedI)) (fun _ _ => rfl) rfl
  | _, _, _, _, .own h hf hb => .mk' (se_own (h.sef hf)) (frE_true hb) (frE_bool hb)
  | _, _, _, _, .repF ha hf hn => .mk' (SE.of_SEF (sef_repF (ha.sef hf) hn.snd.v)) (fun _ _ => rfl) rfl
  | _, _, _, _, .catF ha hb hf => .mk' (SE.of_SEF (sef_catF ha.snd.v (hb.sef hf))) (fun _ _ => rfl) rfl
  | _, _, _, _, .lstA h hl => .mk' (se_lstA h.snds (by rw [h.len]; exact hl)) (fun _ _ => rfl) rfl
  | _, _, _, _, .rev ha => .mk' (se_rev ha.snd.v) (fun _ _ => rfl) rfl
  | _, _, _, _, .mk hl ho e1 e2 e3 hs hd => .mk' (se_mk hl ho e1 e2 e3 hs hd) (fun _ _ => rfl) rfl
  | _, _, _, _, .callv h v d1 d2 => .mk' (se_callv h v d1 d2) (fun _ _ => rfl) rfl
  | _, _, _, _, .exv ha hn => .mk' (se_exv ha.snd.v (fun _ => nm_base hn _)) (fun _ _ => rfl) rfl
  | _, _, _, _, .isC hl h hx hk d1 ha => .mk' (se_isC hl h hx hk d1 ha.snd.v ha.star) (fun _ _ => rfl) rfl
  | _, _, _, _, .isV hl h hl2 h2 ha => .mk' (se_isV hl h hl2 h2 ha.snd.v ha.star) (fun _ _ => rfl) rfl
theorem TrE.sef : ∀ {c : Cfg} {sc : Scope} {e : Expr} {i : Ex}, TrE g N sc e i → isFr i = true → SEF g N sc d c e i
  | _, _, _, _, .lst h hl, _ => sef_lst h.snds (by rw [h.len]; exact hl)
  | _, _, _, _, .repF ha hf hn, _ => sef_repF (ha.sef hf) hn.snd.v
  | _, _, _, _, .catF ha hb hf, _ => sef_catF ha.snd.v (hb.sef hf)
  | _, _, _, _, .lc own hb ht hi he hc h1 hin, _ => sef_lc own hb ht hi.sndi he.snd.v (hc.sndc h1) h1 hin hi.foldedI
  | _, _, _, _, .one ha, hf => sef_one (ha.sef hf)
  | _, _, _, _, .var _ _ _ _, hf => nomatch hf
  | _, _, _, _, .int, hf => nomatch hf
  | _, _, _, _, .bool, hf => nomatch hf
  | _, _, _, _, .non, hf => nomatch hf
  | _, _, _, _, .str, hf => nomatch hf
  | _, _, _, _, .glob _ _ _, hf => nomatch hf
  | _, _, _, _, .bin _ _ _, hf => nomatch hf
  | _, _, _, _, .neg _, hf => nomatch hf
  | _, _, _, _, .not _, hf => nomatch hf
  | _, _, _, _, .cmp _ _ _, hf => nomatch hf
  | _, _, _, _, .chain _ _ _ _ _, hf => nomatch hf
  | _, _, _, _, .and _ _, hf => nomatch hf
  | _, _, _, _, .or _ _, hf => nomatch hf
  | _, _, _, _, .ite _ _ _, hf => nomatch hf
  | _, _, _, _, .tup _ _, hf => nomatch hf
  | _, _, _, _, .lstM _ _, hf => nomatch hf
  | _, _, _, _, .call _ _ _ _, hf => nomatch hf
  | _, _, _, _, .call0 _ _ _, hf => nomatch hf
  | _, _, _, _, .callK _ _ _ _ _, hf => nomatch hf
  | _, _, _, _, .biF _ _ _ _ _ _ _ _ _, hf => nomatch hf
  | _, _, _, _, .biT _ _ _ _ _ _ _ _ _, hf => nomatch hf
  | _, _, _, _, .biI _ _ _ _ _ _, hf => nomatch hf
  | _, _, _, _, .isi _ _ _ _ _ _ _ _ _ _ _, hf => nomatch hf
  | _, _, _, _, .lrange _ _ _ _ _, hf => nomatch hf
  | _, _, _, _, .ix _ _, hf => nomatch hf
  | _, _, _, _, .dix _ _ _ _ _ _ _, hf => nomatch hf
  | _, _, _, _, .slice _ _ _, hf => nomatch hf
  | _, _, _, _, .own _ _ _, hf => nomatch hf
  | _, _, _, _, .lstA _ _, hf => nomatch hf
  | _, _, _, _, .rev _, hf => nomatch hf
  | _, _, _, _, .mk _ _ _ _ _ _ _, hf => nomatch hf
  | _, _, _, _, .callv _ _ _ _, hf => nomatch hf
  | _, _, _, _, .exv _ _, hf => nomatch hf
  | _, _, _, _, .isC _ _ _ _ _ _, hf => nomatch hf
  | _, _, _, _, .isV _ _ _ _ _, hf => nomatch hf
theorem TrI.sndi : ∀ {c : Cfg} {sc : Scope} {tg it : Expr} {i : Itr}, TrI g N sc tg it i → SI g N sc d c tg it i
  | _, _, _, _, _, .e h => si_e h.snd.v
  | _, _, _, _, _, .rng hl h hs h3 => si_rngE hl h hs hs.snds h3
  | _, _, _, _, _, .zip hl h ha hb => si_zip hl h ha.snd.v hb.snd.v ha.star hb.star
  | _, _, _, _, _, .enum hl h ha => si_enum hl h ha.snd.v ha.star
theorem TrEs.snds : ∀ {c : Cfg} {sc : Scope} {es : List Expr} {is : Exs}, TrEs g N sc es is → SA g N sc d c es is
  | _, _, _, _, .nil => sa_nil
  | _, _, _, _, .cons h r => sa_cons h.snd.v r.snds (h.star _)
theorem TrEs.sndv : ∀ {c : Cfg} {sc : Scope} {es : List Expr} {is : Exs}, TrEs g N sc es is → SVs g N sc d c es is
  | _, _, _, _, .nil => .nil
  | _, _, _, _, .cons h r => .cons h.snd.v r.sndv
theorem TrEs.sndc : ∀ {c : Cfg} {sc : Scope} {es : List Expr} {is : Exs}, TrEs g N sc es is → es.length ≤ 1 → (es = [] ∧ is = .nil) ∨ ∃ q q', es = [q] ∧ is = .cons q' .nil ∧ ST g N sc d c q q'
  | _, _, _, _, .nil, _ => .inl ⟨rfl, rfl⟩
  | _, _, _, _, .cons h .nil, _ => .inr ⟨_, _, rfl, rfl, h.snd.t⟩
  | _, _, _, _, .cons _ (.cons _ _), h1 => by simp at h1
theorem TrKs.sndk : ∀ {c : Cfg} {sc : Scope} {ks : List Keyword} {ns : List Str} {is : Exs}, TrKs g N sc ks ns is → SK g N sc d c ks ns is
  | _, _, _, _, _, .nil => sk_nil
  | _, _, _, _, _, .cons h r => sk_cons h.snd.v r.sndk
theorem TrO.sndo : ∀ {c : Cfg} {sc : Scope} {o : Option Expr} {is : Exs}, TrO g N sc o is → SO g N sc d c o is
  | _, _, _, _, .non => so_none
  | _, _, _, _, .some h => so_some h.snd.v
end
end
end Pv
set_option Elab.async false
set_option maxRecDepth 100000
set_option linter.unusedVariables false
/-! Pv9: statements. -/
namespace Pv
open PySem PySem.Spec PyProof.Rows L2
theorem PF.of {Z : Kc} {ou : Option (En × SL)} {α δ : Type} {m av : List Addr} {H : Hp} {S : Sto} {r : R A} {f : A → Sto → R α} {Q : δ → Hp → Prop} {E : XK} {rep : Hp → List Addr → List Addr → α → δ → Prop} {Q' : VK} (R0 : Rel Z ou m av H S) (h : Post Z ou rep m av H (r.bind f) Q E) (k : ∀ x S1, r = .ok x S1 → ∀ ms H1 v, Evo m H ms H1 → Rel Z ou (m ++ ms) (av ++ ms) H1 S1 → RepA Z H1 (m ++ ms) (av ++ ms) x v → Q' v H1) : PostF Z ou m av H r Q' E :=
  PostF.of_Post R0 (h.into k)
/-- an exception, its dict new -/
theorem Post.exc {α β : Type} {rep : Hp → List Addr → List Addr → α → β → Prop} {Z : Kc} {ou : Option (En × SL)} {m av : List Addr} {H : Hp} {S : Sto} {k : Nat} {q : PyData} {Q : β → Hp → Prop} {E : XK} {C dd : Addr} {v : V} (h : Post Z ou rep m av H (.ex k q S) Q E) (hd : H dd = none)
    (R : Rel Z ou m av H S) (hC : Z.ca k = Option.some C) (r : Rep Z.K H av q v) : E (.ref C) (Option.some dd) (upd H dd (.xd [("value", v)])) := by
  obtain ⟨E2, R2⟩ := R.laidA (o := .xd [("value", v)]) hd
  have nd : dd ∉ av := fun z => by
    obtain ⟨u, hu⟩ := R.live dd z
    rw [hu] at hd; cases hd
  have R3 := R2.reav (av' := av) (fun a ha => List.mem_append_left _ ha) R.sub
  refine h [] _ _ _ ⟨E2.keep, fun _ z => nomatch z⟩ (by rw [List.append_nil, List.append_nil]; exact R3) ⟨C, dd, _, v, hC, rfl, rfl, by rw [List.append_nil]; exact nd, upd_same, rfl, ?_⟩
  rw [List.append_nil]
  exact Rep.less (fun a ha => List.mem_append_left _ ha) (Rep.evo E2 R.sub r)

def ws (X : Cx) (st : Stmt) : TS := fun D σ H => ∀ pins s, Inv X pins σ H s → wpAny (model X.prog X.w) X.A (exec st X.env) (SP X pins D) X.xe s
theorem ps_ws {X : Cx} {st : Stmt} : PS X st (ws X st) := ⟨fun pins s σ H D I h => h pins s I⟩
theorem ws_of {X : Cx} {st : Stmt} {t : TS} (h : PS X st t) {σ : SL} {H : Hp} {D : Ends} (q : t D σ H) : ws X st D σ H := fun pins s I => h.run pins s σ H D I q
def wss (X : Cx) (st : List Stmt) : TS := fun D σ H => ∀ pins s, Inv X pins σ H s → wpAny (model X.prog X.w) X.A (execs st X.env) (SP X pins D) X.xe s
theorem pss_wss {X : Cx} {st : List Stmt} : PSs X st (wss X st) := ⟨fun pins s σ H D I h => h pins s I⟩
theorem wss_of {X : Cx} {st : List Stmt} {t : TS} (h : PSs X st t) {σ : SL} {H : Hp} {D : Ends} (q : t D σ H) : wss X st D σ H := fun pins s I => h.run pins s σ H D I q

/-- how a block ends, by values -/
inductive FV where
  | nx (σ : SL)
  | rt (v : V)
  | bk (σ : SL)
  | ct (σ : SL)
def dQ (D : Ends) : FV → Hp → Prop
  | .nx σ, H => D.nx σ H
  | .rt v, H => D.rt v H
  | .bk σ, H => D.bk σ H
  | .ct σ, H => D.ct σ H
def FlR (Z : Kc) (H : Hp) (m av : List Addr) : Fl → FV → Prop
  | .nx σd, .nx σ => EnR Z H m av σd σ
  | .rt a, .rt v => RepA Z H m av a v
  | .bk σd, .bk σ => EnR Z H m av σd σ
  | .ct σd, .ct σ => EnR Z H m av σd σ
  | _, _ => False
abbrev PostS (Z : Kc) (ou : Option (En × SL)) (m av : List Addr) (H : Hp) (r : R Fl) (D : Ends) (E : XK) : Prop := Post Z ou (FlR Z) m av H r (dQ D) E

section
variable {Z : Kc} {ou : Option (En × SL)} {m av : List Addr} {H : Hp} {S : Sto} {D : Ends} {E : XK}
theorem Post.toNx {σd : En} {σ : SL} (P : PostS Z ou m av H (.ok (.nx σd) S) D E) (R : Rel Z ou m av H S) (r : EnR Z H m av σd σ) : D.nx σ H := Post.now (v := FV.nx σ) P R r
theorem Post.toBk {σd : En} {σ : SL} (P : PostS Z ou m av H (.ok (.bk σd) S) D E) (R : Rel Z ou m av H S) (r : EnR Z H m av σd σ) : D.bk σ H := Post.now (v := FV.bk σ) P R r
theorem Post.toCt {σd : En} {σ : SL} (P : PostS Z ou m av H (.ok (.ct σd) S) D E) (R : Rel Z ou m av H S) (r : EnR Z H m av σd σ) : D.ct σ H := Post.now (v := FV.ct σ) P R r
theorem Post.toRt {a : A} {v : V} (P : PostS Z ou m av H (.ok (.rt a) S) D E) (R : Rel Z ou m av H S) (r : RepA Z H m av a v) : D.rt v H := Post.now (v := FV.rt v) P R r
end

structure XOkS (g : Stat) (N : List Str) (sc : Scope) (d : Nat) (c : Cfg) (X : Cx) (z : Zt) : Prop extends XOk g N sc d c X z where
  fnT : ∀ x, X.fn x = true
  own : PassesOwn (model X.prog X.w) X.A X.env X.xe
  stk : X.stack = X.env :: X.outer
  frm : X.env.frame = some X.env.locals

section
variable (g : Stat) (N : List Str) (sc : Scope) (d : Nat) (c : Cfg)
def SS (st : Stmt) (i : Sm) : Prop := ∀ (X : Cx) (zt : Zt), XOkS g N sc d c X zt → ∀ (W : WX), Takes X W → ∀ (σd : En) (σ : SL) (H : Hp) (m av : List Addr) (S : Sto) (D : Ends) (E : XK), (∀ σ' cls d H', E cls d H' → W cls d σ' H') → EnR (zc X zt) H m av σd σ → Rel (zc X zt) zt.ou m av H S → PostS (zc X zt) zt.ou m av H (Pv.st c i σd S) D E → ws X st D σ H
def SSs (st : List Stmt) (i : Ss) : Prop := ∀ (X : Cx) (zt : Zt), XOkS g N sc d c X zt → ∀ (W : WX), Takes X W → ∀ (σd : En) (σ : SL) (H : Hp) (m av : List Addr) (S : Sto) (D : Ends) (E : XK), (∀ σ' cls d H', E cls d H' → W cls d σ' H') → EnR (zc X zt) H m av σd σ → Rel (zc X zt) zt.ou m av H S → PostS (zc X zt) zt.ou m av H (sts c i σd S) D E → wss X st D σ H
end
section
variable {g : Stat} {N : List Str} {sc : Scope} {d : Nat} {c : Cfg} {pos : Pos}
theorem ss_set {i : Nat} {x : Str} {p : Pos} {e : Expr} {e' : Ex} (h : N[i]? = some x) (l : Loc sc x) (he : SE g N sc d c e e') (hs : ∀ env, swapsWith e (some (.Name x p)) pos.line env = pure false) : SS g N sc d c (.Assign [.Name x p] e pos) (.set i e') := by
  intro X zt ok W tk σd σ H m av S D EX hW En R P
  simp only [st] at P
  refine ws_of (ps_set (by rw [ok.N_]; exact ok.nd) (by rw [ok.N_]; exact h) (by rw [ok.sc_]; exact l) pe_we (hs _) (.inl (ok.fnT _))) ?_
  refine he X zt ok.toXOk W tk σd σ H m av S _ _ (hW _) En R (P.into fun y S1 e1 ms H1 v E1 R1 r1 => ?_)
  have P1 := P.step e1 E1 R1
  exact P1.toNx R1 (EnR.set (En.evo R E1) i r1)
theorem ss_setLc {i : Nat} {y : Str} {py : Pos} {scope : Scope} {tg it e : Expr} {it' : Itr} {e' : Ex} {cs : List Expr} {cs' : Exs} {t : Tg} {p : Pos} (own : List (Str × Nat)) (hy : N[i]? = some y) (hyl : sc.names.lookup y = some .local) (hk : sc.kind = .function) (hl : (py.line == p.line) = true)
    (hsa : (scope.names.any fun (n, k) => n == y && (k == .local || k == .cell)) = false)
    (hb : blkC N sc scope own = true) (ht : TrT N (relS scope sc) scope tg t) (hi : SI g N sc d c tg it it') (he : SE g N (relS scope sc) d c.blk e e')
    (hc : (cs = [] ∧ cs' = .nil) ∨ ∃ q q', cs = [q] ∧ cs' = .cons q' .nil ∧ ST g N (relS scope sc) d c.blk q q') (h1 : cs.length ≤ 1) (hin : (slotsOf t).all (fun i => decide (i ∈ own.map (·.2))) = true) (hfo : ∀ env v, foldedSetIterable it env v = pure v) :
    SS g N sc d c (.Assign [.Name y py] (.ListComp e [⟨tg, it, cs, 0⟩] scope p) pos) (.set i (.lc t (own.map (·.2)) it' e' cs')) := by
  intro X zt okS W tk σd σ H m av S D EX hW En R P
  have ok := okS.toXOk
  rw [st] at P
  have hblk : BlkOk X.N X.env.scope scope own := by rw [ok.N_, ok.sc_]; exact blkOk_by hb
  refine ws_of (ps_setLc (i := i) (wi := wI X tg it) (g := tgR X.K t) (tt := wcB X scope cs) (te := weB X scope e) ok.calm (by rw [ok.N_]; exact ok.nd) (by rw [ok.N_]; exact hy) (by rw [ok.sc_]; exact hyl)
    (sw_true (by rw [ok.sc_]; exact hk) (by rw [ok.sc_]; exact hyl) hl hsa) pi_wI hblk
    (pg_blk ok ht) (fun s0 H0 C cl fp => pts_wcB h1 s0 H0 C cl fp) (fun s0 H0 C cl fp => ⟨fun pins s σ H Q I h => h s0 H0 C cl fp pins s I⟩) (hfo _)) ?_
  refine lc_read ok hi he hc hin tk (hW _) En R (PF.of R P fun z S1 e1 ms H1 v E1 R1 r1 => ?_)
  have P1 := P.step e1 E1 R1
  exact P1.toNx R1 (EnR.set (En.evo R E1) i r1)

theorem ss_setLcO {i : Nat} {y : Str} {py : Pos} {scope : Scope} {tg it e : Expr} {it' : Itr} {e' : Ex} {cs : List Expr} {cs' : Exs} {t : Tg} {p : Pos} (own : List (Str × Nat)) (hy : N[i]? = some y) (hyl : sc.names.lookup y = some .local) (hk : sc.kind = .function) (hl : (py.line == p.line) = true)
    (hsa : (scope.names.any fun (n, k) => n == y && (k == .local || k == .cell)) = false)
    (hb : blkC N sc scope own = true) (ht : TrT N (relS scope sc) scope tg t) (hi : SI g N sc d c tg it it') (he : SE g N (relS scope sc) d c.blk e e')
    (hc : (cs = [] ∧ cs' = .nil) ∨ ∃ q q', cs = [q] ∧ cs' = .cons q' .nil ∧ ST g N (relS scope sc) d c.blk q q') (h1 : cs.length ≤ 1) (hin : (slotsOf t).all (fun i => decide (i ∈ own.map (·.2))) = true) (hfo : ∀ env v, foldedSetIterable it env v = pure v) :
    SS g N sc d c (.Assign [.Name y py] (.ListComp e [⟨tg, it, cs, 0⟩] scope p) pos) (.set i (.own (.lc t (own.map (·.2)) it' e' cs'))) := by
  intro X zt okS W tk σd σ H m av S D EX hW En R P
  have ok := okS.toXOk
  rw [st] at P
  have hblk : BlkOk X.N X.env.scope scope own := by rw [ok.N_, ok.sc_]; exact blkOk_by hb
  refine ws_of (ps_setLc (i := i) (wi := wI X tg it) (g := tgR X.K t) (tt := wcB X scope cs) (te := weB X scope e) ok.calm (by rw [ok.N_]; exact ok.nd) (by rw [ok.N_]; exact hy) (by rw [ok.sc_]; exact hyl)
    (sw_true (by rw [ok.sc_]; exact hk) (by rw [ok.sc_]; exact hyl) hl hsa) pi_wI hblk
    (pg_blk ok ht) (fun s0 H0 C cl fp => pts_wcB h1 s0 H0 C cl fp) (fun s0 H0 C cl fp => ⟨fun pins s σ H Q I h => h s0 H0 C cl fp pins s I⟩) (hfo _)) ?_
  refine lc_read ok hi he hc hin tk (hW _) En R (PostF.of_own (P.into fun z S1 e1 ms H1 v E1 R1 r1 => ?_))
  have P1 := P.step e1 E1 R1
  exact P1.toNx R1 (EnR.set (En.evo R E1) i r1)

/-! two and three names at once -/
theorem ss_par {i j : Nat} {x y : Str} {a b : Expr} {a' b' : Ex} {px py pt : Pos} {kt k2 pt2} (hi : N[i]? = some x) (hj : N[j]? = some y) (hij : i ≠ j) (hx : sc.names.lookup x = some .local) (hy : sc.names.lookup y = some .local)
    (ha : SE g N sc d c a a') (hb : SE g N sc d c b b') (sa : ∀ es env, starEach (a :: es) env = (false, eval a env) :: starEach es env) (sb : ∀ es env, starEach (b :: es) env = (false, eval b env) :: starEach es env)
    (hw : ∀ env : Env, env.scope = sc → swappedStores [.Tuple [.Name x px, .Name y py] kt pt] (.Tuple [a, b] k2 pt2) env = pure (some [x, y])) :
    SS g N sc d c (.Assign [.Tuple [.Name x px, .Name y py] kt pt] (.Tuple [a, b] k2 pt2) pos) (.par i j a' b') := by
  intro X zt ok W tk σd σ H m av S D EX hW En R P
  simp only [st] at P
  refine ws_of (ps_par (i := i) (j := j) ok.calm (by rw [ok.N_]; exact ok.nd) (by rw [ok.N_]; exact hi) (by rw [ok.N_]; exact hj) hij (by rw [ok.sc_]; exact hx) (by rw [ok.sc_]; exact hy) (pa_cons pe_we (pa_cons pe_we pa_nil (sb _ _)) (sa _ _)) (hw _ ok.sc_)) ?_
  refine ha X zt ok.toXOk W tk σd σ H m av S _ _ (hW _) En R (P.into fun y1 S1 e1 ms H1 v E1 R1 r1 => ?_)
  have P1 := P.step e1 E1 R1
  have En1 := En.evo R E1
  refine hb X zt ok.toXOk W tk σd σ H1 _ _ S1 _ _ (hW _) En1 R1 (P1.into fun y2 S2 e2 ns H2 u E2 R2 r2 => ?_)
  have P2 := P1.step e2 E2 R2
  have r1' := RepA.evo R1 E2 r1
  exact ⟨v, u, rfl, P2.toNx R2 (EnR.set (EnR.set (EnR.evo R1 E2 En1) i r1') j r2)⟩
theorem ss_par3 {i j l : Nat} {x y z : Str} {a b e : Expr} {a' b' e' : Ex} {px py pz pt : Pos} {kt k2 pt2} (hi : N[i]? = some x) (hj : N[j]? = some y) (hl : N[l]? = some z) (hij : i ≠ j) (hil : i ≠ l) (hjl : j ≠ l) (hx : sc.names.lookup x = some .local) (hy : sc.names.lookup y = some .local) (hz : sc.names.lookup z = some .local)
    (ha : SE g N sc d c a a') (hb : SE g N sc d c b b') (he : SE g N sc d c e e') (sa : ∀ es env, starEach (a :: es) env = (false, eval a env) :: starEach es env) (sb : ∀ es env, starEach (b :: es) env = (false, eval b env) :: starEach es env) (se : ∀ es env, starEach (e :: es) env = (false, eval e env) :: starEach es env)
    (hw : ∀ env : Env, env.scope = sc → swappedStores [.Tuple [.Name x px, .Name y py, .Name z pz] kt pt] (.Tuple [a, b, e] k2 pt2) env = pure (some [x, y, z])) :
    SS g N sc d c (.Assign [.Tuple [.Name x px, .Name y py, .Name z pz] kt pt] (.Tuple [a, b, e] k2 pt2) pos) (.par3 i j l a' b' e') := by
  intro X zt ok W tk σd σ H m av S D EX hW En R P
  simp only [st] at P
  refine ws_of (ps_par3 (i := i) (j := j) (l := l) ok.calm (by rw [ok.N_]; exact ok.nd) (by rw [ok.N_]; exact hi) (by rw [ok.N_]; exact hj) (by rw [ok.N_]; exact hl) hij hil hjl (by rw [ok.sc_]; exact hx) (by rw [ok.sc_]; exact hy) (by rw [ok.sc_]; exact hz) (pa_cons pe_we (pa_cons pe_we (pa_cons pe_we pa_nil (se _ _)) (sb _ _)) (sa _ _)) (hw _ ok.sc_)) ?_
  refine ha X zt ok.toXOk W tk σd σ H m av S _ _ (hW _) En R (P.into fun y1 S1 e1 ms H1 v E1 R1 r1 => ?_)
  have P1 := P.step e1 E1 R1
  have En1 := En.evo R E1
  refine hb X zt ok.toXOk W tk σd σ H1 _ _ S1 _ _ (hW _) En1 R1 (P1.into fun y2 S2 e2 ns H2 u E2 R2 r2 => ?_)
  have P2 := P1.step e2 E2 R2
  have En2 := EnR.evo R1 E2 En1
  refine he X zt ok.toXOk W tk σd σ H2 _ _ S2 _ _ (hW _) En2 R2 (P2.into fun y3 S3 e3 ks H3 w E3 R3 r3 => ?_)
  have P3 := P2.step e3 E3 R3
  have r1' := RepA.evo R2 E3 (RepA.evo R1 E2 r1)
  have r2' := RepA.evo R2 E3 r2
  exact ⟨v, u, w, rfl, P3.toNx R3 (EnR.set (EnR.set (EnR.set (EnR.evo R2 E3 En2) i r1') j r2') l r3)⟩
theorem pg_own {X : Cx} {zt : Zt} (ok : XOkS g N sc d c X zt) {tg : Expr} {t : Tg} (ht : TrT N sc sc tg t) : PG X tg (tgR X.K t) :=
  pg_tg (scope := sc) ok.calm (by rw [ok.N_]; exact ok.nd) ok.N_ ok.sc_ (fun y _ => ok.fnT y) ht
theorem ss_unp {is : List Nat} {tg e : Expr} {e' : Ex} (ht : TrT N sc sc tg (.t is)) (he : SE g N sc d c e e') (hs : ∀ env, swapsWithSole [tg] e pos.line env = pure false) (hw : ∀ env : Env, env.scope = sc → swappedStores [tg] e env = pure none) (h1 : ∀ env, (assignEach [tg] env).map (·.2) = [assign tg env]) :
    SS g N sc d c (.Assign [tg] e pos) (.unp is e') := by
  intro X zt ok W tk σd σ H m av S D EX hW En R P
  simp only [st] at P
  refine ws_of (ps_asg (g := tgR X.K (.t is)) pe_we (pg_own ok ht) (hs _) (hw _ ok.sc_) (h1 _)) ?_
  refine he X zt ok.toXOk W tk σd σ H m av S _ _ (hW _) En R (P.into fun y S1 e1 ms H1 v E1 R1 r1 => ?_)
  have P1 := P.step e1 E1 R1
  obtain ⟨f, e2, P2⟩ := P1.some
  cases e3 : setTgA (.t is) y σd with
  | none => rw [e3] at e2; cases e2
  | some σd' =>
    rw [e3] at e2
    simp only [Option.map_some, Option.some.injEq] at e2
    subst e2
    exact tgA_ok (En.evo R E1) r1 e3 fun σ' En' => P2.toNx R1 En'
theorem ss_six {o i e : Expr} {o' i' e' : Ex} {tpos : Pos} (ho : SE g N sc d c o o') (hi : SE g N sc d c i i') (he : SE g N sc d c e e')
    (ha : ∀ env v, assign (.Subscript o i tpos) env v = (do
      let ov ← holding [v] (eval o env)
      let iv ← holding [v, ov] (eval i env)
      standAt tpos
      holding [v, ov, iv] (setItem ov iv v)
      release [v, ov, iv] [])) (hs : ∀ env, swapsWithSole [.Subscript o i tpos] e pos.line env = pure false) (hw : ∀ env, swappedStores [.Subscript o i tpos] e env = pure none) (h1 : ∀ env, (assignEach [.Subscript o i tpos] env).map (·.2) = [assign (.Subscript o i tpos) env]) :
    SS g N sc d c (.Assign [.Subscript o i tpos] e pos) (.six o' i' e') := by
  intro X zt ok W tk σd σ H m av S D EX hW En R P
  simp only [st] at P
  refine ws_of (ps_asg (g := gSub (we X o) (we X i) rSetL) pe_we (pg_sub pe_we pe_we set_list (ha _)) (hs _) (hw _) (h1 _)) ?_
  refine he X zt ok.toXOk W tk σd σ H m av S _ _ (hW _) En R (P.into fun y S1 e1 ms H1 v E1 R1 r1 => ?_)
  have P1 := P.step e1 E1 R1
  have En1 := En.evo R E1
  refine ho X zt ok.toXOk W tk σd σ H1 _ _ S1 _ _ (hW _) En1 R1 (P1.into fun x S2 e2 ns H2 u E2 R2 r2 => ?_)
  have P2 := P1.step e2 E2 R2
  have En2 := EnR.evo R1 E2 En1
  refine hi X zt ok.toXOk W tk σd σ H2 _ _ S2 _ _ (hW _) En2 R2 (P2.into fun j S3 e3 ks H3 w E3 R3 r3 => ?_)
  have P3 := P2.step e3 E3 R3
  have En3 := EnR.evo R2 E3 En2
  have r1' := RepA.evo R2 E3 (RepA.evo R1 E2 r1)
  have r2' := RepA.evo R2 E3 r2
  split at P3
  · rename_i r n y
    split at P3
    · rename_i ds hds
      cases hk : ixN ds.length n with
      | none => rw [hk] at P3; exact P3.elim
      | some k =>
        rw [hk] at P3
        obtain ⟨a, h1, rfl⟩ := r2'
        obtain ⟨b, vs, h2, h3, h4⟩ := R3.at_ hds
        rw [h1] at h2; cases h2
        cases r3
        refine ⟨a, vs, n, k, rfl, rfl, h3, by rw [← h4.length]; exact hk, ?_⟩
        obtain ⟨E4, R4⟩ := R3.write h1 h3 (RepAll.set r1' k h4)
        have En4 := EnR.evo R3 E4 En3
        rw [List.append_nil, List.append_nil] at En4
        exact P3.later (v := FV.nx σ) (ms := []) E4 (by rw [List.append_nil, List.append_nil]; exact R4) (by rw [List.append_nil, List.append_nil]; exact En4)
    · exact P3.elim
  · exact P3.elim
theorem ss_ret {e : Expr} {e' : Ex} (he : SE g N sc d c e e') : SS g N sc d c (.Return (some e) pos) (.ret e') := by
  intro X zt ok W tk σd σ H m av S D EX hW En R P
  simp only [st] at P
  refine ws_of (ps_ret pe_we) ?_
  refine he X zt ok.toXOk W tk σd σ H m av S _ _ (hW _) En R (P.into fun y S1 e1 ms H1 v E1 R1 r1 => ?_)
  have P1 := P.step e1 E1 R1
  exact P1.toRt R1 r1
theorem ss_retN : SS g N sc d c (.Return none pos) .retN := by
  intro X zt ok W tk σd σ H m av S D EX hW En R P
  simp only [st] at P
  exact ws_of ps_retN (P.toRt (v := .non) R (Rep.non))
theorem ss_ife {t : Expr} {t' : Ex} {a b : List Stmt} {a' b' : Ss} (ht : ST g N sc d c t t') (ha : SSs g N sc d c a a') (hb : SSs g N sc d c b b') : SS g N sc d c (.If t a b pos) (.ife t' a' b') := by
  intro X zt ok W tk σd σ H m av S D EX hW En R P
  simp only [st] at P
  refine ws_of (ps_if pt_wt pss_wss pss_wss) ?_
  refine ht X zt ok.toXOk W tk σd σ H m av S _ _ (hW _) En R (tst_into (f := fun x S1 k => match k with | true => sts c a' σd S1 | false => sts c b' σd S1) P fun x S1 k e1 e2 go ms H1 v E1 R1 r1 => ?_)
  have r1' : v = k := r1
  subst r1'
  have P1 := go ms H1 E1 R1
  cases v with
  | true => exact ha X zt ok W tk σd σ H1 _ _ S1 D _ hW (En.evo R E1) R1 P1
  | false => exact hb X zt ok W tk σd σ H1 _ _ S1 D _ hW (En.evo R E1) R1 P1
theorem ss_expr {e : Expr} {e' : Ex} (he : SE g N sc d c e e') (hs : ∀ env, swapsWith e none pos.line env = pure false) : SS g N sc d c (.Expr e pos) (.expr e') := by
  intro X zt ok W tk σd σ H m av S D EX hW En R P
  simp only [st] at P
  refine ws_of (ps_expr pe_we (hs _)) ?_
  refine he X zt ok.toXOk W tk σd σ H m av S _ _ (hW _) En R (P.into fun y S1 e1 ms H1 v E1 R1 r1 => ?_)
  have P1 := P.step e1 E1 R1
  exact P1.toNx R1 (En.evo R E1)
theorem ss_pass : SS g N sc d c (.Pass pos) .pass := by
  intro X zt ok W tk σd σ H m av S D EX hW En R P
  simp only [st] at P
  exact ws_of ps_pass (P.toNx R En)
theorem ss_doc {x j pos'} : SS g N sc d c (.Expr (.Constant (.str x) j pos) pos') .pass := by
  intro X zt ok W tk σd σ H m av S D EX hW En R P
  simp only [st] at P
  exact ws_of ps_doc (P.toNx R En)
theorem ss_brk : SS g N sc d c (.Break pos) .brk := by
  intro X zt ok W tk σd σ H m av S D EX hW En R P
  simp only [st] at P
  exact ws_of ps_break (P.toBk R En)
theorem ss_cont : SS g N sc d c (.Continue pos) .cont := by
  intro X zt ok W tk σd σ H m av S D EX hW En R P
  simp only [st] at P
  exact ws_of ps_continue (P.toCt R En)
theorem ss_nev {s : Stmt} : SS g N sc d c s .nev := by
  intro X zt ok W tk σd σ H m av S D EX hW En R P
  simp only [st] at P
  exact P.elim
theorem ss_raise {e : Expr} {k : Nat} {e' : Ex} {x : Str} {p p2 : Pos} (hx : Gb sc x) (hk : g.cn x = some k) (d1 : (x == ("__debug__" : Str)) = false) (he : SE g N sc d c e e') (sa : ∀ es env, starEach (e :: es) env = (false, eval e env) :: starEach es env) :
    SS g N sc d c (.Raise (some (.Call (.Name x p) [e] [] p2)) none pos) (.raise k e') := by
  intro X zt ok W tk σd σ H m av S D EX hW En R P
  rw [st] at P
  by_cases h2d : 2 ≤ c.d
  case neg => rw [if_neg h2d] at P; exact P.elim
  rw [if_pos h2d] at P
  obtain ⟨C, h1, h2, h3⟩ := ok.exc.made x k hk
  refine ws_of (ps_raise ok.calm tk (h3 X e (we X e) p p2 rfl rfl rfl rfl rfl (ok.room.mono (by rw [← ok.dd]; exact h2d)) (ok.gl hx) d1 pe_we sa)) ?_
  refine he X zt ok.toXOk W tk σd σ H m av S _ _ (hW _) En R (P.into fun y S1 e1 ms H1 v E1 R1 r1 => ?_)
  have P1 := P.step e1 E1 R1
  intro dd hd
  cases y with
  | d q => exact hW _ _ _ _ (P1.exc hd R1 h2 r1)
  | _ => exact P1.elim
theorem ss_nil : SSs g N sc d c [] .nil := by
  intro X zt ok W tk σd σ H m av S D EX hW En R P
  simp only [sts] at P
  exact wss_of pss_nil (P.toNx R En)
theorem ss_cons {s : Stmt} {r : List Stmt} {s' : Sm} {r' : Ss} (hs : SS g N sc d c s s') (hr : SSs g N sc d c r r') : SSs g N sc d c (s :: r) (.cons s' r') := by
  intro X zt ok W tk σd σ H m av S D EX hW En R P
  simp only [sts] at P
  refine wss_of (pss_cons ps_ws pss_wss) ?_
  refine hs X zt ok W tk σd σ H m av S _ _ hW En R (P.into fun f S1 e1 ms H1 v E1 R1 r1 => ?_)
  have P1 := P.step e1 E1 R1
  cases f with
  | nx σd' =>
    cases v with
    | nx σ' => exact hr X zt ok W tk σd' σ' H1 _ _ S1 D _ hW r1 R1 P1
    | _ => exact r1.elim
  | rt a =>
    cases v with
    | rt v => exact P1.toRt R1 r1
    | _ => exact r1.elim
  | bk σd' =>
    cases v with
    | bk σ' => exact P1.toBk R1 r1
    | _ => exact r1.elim
  | ct σd' =>
    cases v with
    | ct σ' => exact P1.toCt R1 r1
    | _ => exact r1.elim
end
end Pv
set_option Elab.async false
set_option maxRecDepth 100000
set_option linter.unusedVariables false
/-! Pv9t: a caught exception is kept. -/
namespace Pv
open PySem PySem.Spec PyProof.Rows L2
/-- a caught exception, as it lies in the heap -/
def CauH (cls : Value) (d : Option Addr) (a : Addr) : HO := .ext fun h => ∃ (oe : Obj) (vs : Array Value), h.get? a = some oe ∧ Zc cls d oe ∧ oe.data = .fields vs
theorem cau_exc {cls : Value} {dd a : Addr} : CauH cls (some dd) a = ExcH cls dd a := rfl
/-- an object that stands by now is looked at from now on -/
theorem inv_track {X : Cx} {pins : List (Addr × Obj)} {σ : SL} {H : Hp} {s : Shared} {a : Addr} {oe : Obj} {vs : Array Value} {cls : Value} {d : Option Addr} (I : Inv X pins σ H s) (ha : s.heap.get? a = some oe) (hz : Zc cls d oe) (hd : oe.data = .fields vs)
    (hn : H a = none) (nL : a ≠ X.env.locals) (n0 : ∀ o, X.s_0.heap.get? a = some o → a ∈ X.ex) (np : ∀ p ∈ X.pn ++ pins, p.1 ≠ a) : Inv X pins σ (upd H a (CauH cls d a)) s where
  ok := I.ok
  os := I.os
  bare := I.bare
  base := {
    keep := I.base.keep
    slot := I.base.slot
    there := I.base.there
    free := fun b o e n x => by
      have nb : b ≠ a := fun z => x (by subst z; exact n0 o e)
      rw [upd_ne nb]; exact I.base.free b o e n x
    tups := fun b xs q => by
      have z := I.base.tups b xs q
      rw [upd_ne (ne_of_none z hn)]; exact z
    frzs := fun b o u q => by
      have z := I.base.frzs b o u q
      rw [upd_ne (ne_of_none z hn)]; exact z
    tbls := fun b ps q => by
      obtain ⟨more, z⟩ := I.base.tbls b ps q
      exact ⟨more, by rw [upd_ne (ne_of_none z hn)]; exact z⟩ }
  loc := I.loc
  cell := I.cell
  free := by rw [upd_ne (Ne.symm nL)]; exact I.free
  freeC := fun x c e => by
    have nc : c ≠ a := fun z => by
      subst z
      obtain ⟨v, o, ho, hv⟩ := I.cell x c e
      rw [ha] at ho; cases ho
      rw [hd] at hv; cases hv
    rw [upd_ne nc]; exact I.freeC x c e
  pin := fun p hp => by
    obtain ⟨h1, h2, h3⟩ := I.pin p hp
    exact ⟨h1, by rw [upd_ne (np p hp)]; exact h2, h3⟩
  hok := I.hok.laidN (fun _ _ q => q) hn ⟨⟨oe, vs, ha, hz, hd⟩, ⟨oe, ha⟩, fun _ _ ⟨o, v, q, r⟩ k => ⟨o, v, k o q, r⟩⟩
  len := I.len
/-- the ends behind a suite that was entered with a caught exception -/
def heldD (D : Ends) (i : Nat) (cls : Value) (d : Option Addr) (a : Addr) : Ends where
  nx := fun σ H => H a = none → D.nx (σ.set i none) (upd H a (CauH cls d a))
  rt := fun v H => H a = none → D.rt v (upd H a (CauH cls d a))
  bk := fun σ H => H a = none → D.bk (σ.set i none) (upd H a (CauH cls d a))
  ct := fun σ H => H a = none → D.ct (σ.set i none) (upd H a (CauH cls d a))
/-- what «except x as n» wishes: it is of the class -/
def wHold (K : PySem.W.Frag) (n : Nat) (c : Value) (i : Nat) (ts : Addr → Value → Option Addr → TS) (D : Ends) : WX := fun cls d σ H =>
  PySem.W.exmOne K cls c = some true ∧ ∀ a, σ.length = n → H a = none → ts a cls d (heldD D i cls d a) (σ.set i (some (.ref a))) H
/-- the clause -/
abbrev clause (x : Str) (np : Pos) (n : Str) (b₀ : Stmt) (suite : List Stmt) (pos' : Pos) : ExceptHandler := .ExceptHandler (some (.Name x np)) (some n) (b₀ :: suite) pos'
/-- what an exception of the body meets -/
abbrev airX (X : Cx) (pins : List (Addr × Obj)) (D : Ends) (hnd : List ExceptHandler) : Value → Shared → Prop := fun e t1 =>
  wpAny (model X.prog X.w) X.A (noteFrame e X.env) (fun _ t2 => wpAny (model X.prog X.w) X.A (setFlight e none) (fun _ t3 => wpAny (model X.prog X.w) X.A (handleBy e X.env hnd) (SP X pins D) X.xe t3) X.xe t2) X.xe t1
section
variable {X : Cx} {x n : Str} {c : Value} {i : Nat} {suite : List Stmt} {b₀ : Stmt} {np pos' : Pos} {ts : Addr → Value → Option Addr → TS} {D : Ends} {pins : List (Addr × Obj)}
/-- a frame's object is no exception -/
theorem fields_no_frame {l : List Env} {B h : Heap} {a : Addr} {o : Obj} {vs : Array Value} (ff : h.FunFrames B l) (e : h.get? a = some o) (dd : o.data = .fields vs) : a ∉ frs l := fun hm => by
  obtain ⟨_, u, e2, no⟩ := ff.mem hm
  rw [e] at e2
  cases e2
  exact no _ dd
theorem hold_takes (hs : X.stack = X.env :: X.outer) (hf : X.env.frame = some X.env.locals) (hN : X.N.Nodup) (hi : X.N[i]? = some n) (hln : X.env.kindOf n = some .local) (hc : Names X x c) (okX : X.Ok)
    (hsu : ∀ (a : Addr) (oe : Obj) (cls : Value) (d : Option Addr) (pn : List (Addr × Obj)), Zc cls d oe → (∃ vs, oe.data = .fields vs) → PSs (X.suite a ((a, oe) :: pn)) (b₀ :: suite) (ts a cls d)) :
    Takes (X.tr (X.pn ++ pins) (airX X pins D [clause x np n b₀ suite pos'])) (wHold X.K X.N.length c i ts D) := by
  intro u t ⟨a, B, t0, pins', σ', H', cls, d, eu, J', nb, up, sky0, na, os, ag, isC, runs⟩
  subst eu
  have fr0 : X.A.frames = some (X.env :: X.outer) := by rw [okX.frames, hs]
  have J : Inv X pins σ' H' t0 := J'.ofTry okX
  have sky : Sky B (X.env :: X.outer) a (Zc cls d) X.env.locals t.heap := hs ▸ sky0
  show wpAny _ _ (noteFrame (.ref a) X.env) _ _ t
  refine Sky.land Zc.steady fr0 hf sky fun g3 f3 u3 => ?_
  -- the exception is none of the objects that stood
  have new : ∀ b o, t0.heap.get? b = some o → b ≠ a ∨ b ∈ frs X.stack := fun b o e => by
    by_cases hb : b ∈ frs X.stack
    · exact .inr hb
    · refine .inl fun z => ?_
      have q := nb b o e hb
      rw [z, f3.2.1] at q; cases q
  obtain ⟨o3, v3, e3, z3, d3⟩ := f3.there
  have notF : a ∉ frs (X.env :: X.outer) := fields_no_frame f3.2.2.1 e3 d3
  have nS : ∀ b o, t0.heap.get? b = some o → b ≠ a := fun b o e => by
    rcases new b o e with q | q
    · exact q
    · rw [hs] at q
      exact fun z => notF (z ▸ q)
  have nL : a ≠ X.env.locals := fun z => notF (List.mem_filterMap.mpr ⟨X.env, List.mem_cons_self, by rw [hf, z]⟩)
  have nF : a ∉ X.fs := fun hm => by
    obtain ⟨e, he, q⟩ := List.mem_filterMap.mp hm
    exact notF (List.mem_filterMap.mpr ⟨e, List.mem_cons_of_mem _ he, q⟩)
  have n0 : ∀ o, X.s_0.heap.get? a = some o → a ∈ X.ex := fun o e => by
    by_cases hx : a ∈ X.ex
    · exact hx
    · obtain ⟨o', q⟩ := J.base.there a o e hx
      exact absurd rfl (nS a o' q)
  have npin : ∀ p ∈ X.pn ++ pins, p.1 ≠ a := fun p hp => nS p.1 p.2 (J.pin p hp).1
  have J3 : Inv X pins σ' H' { t with heap := g3 } := J.landed nb f3.1 (up.trans u3) os ag
  have K3 := J3.suite e3 d3 na nL nF
  refine wpAny_handleBy_cons (codeAny_handlers_test ?_) (by intro q; cases q)
  have ofCls : PySem.W.Looks (model X.prog X.w) g3 (typeOf (.ref a)) cls := fun A Q E s k q => wpAny_typeOf_ref (k _ _ e3) (by rw [z3.1]; exact q)
  have isOne := (PySem.W.exm_one (M := model X.prog X.w) J3.kIn ofCls isC)
  have clsName : ∀ {Q : Value → Shared → Prop} {E : Value → Shared → Prop}, Q c { t with heap := g3 } → wpAny (model X.prog X.w) (X.A.mark (some (.ref a))) (eval (.Name x np) X.env) Q E { t with heap := g3 } := by
    intro Q E q
    rcases hc with ⟨gl, nd, hm | ⟨hm, hv, nn⟩⟩
    · exact ld_glob (X := X.suite a ((a, o3) :: (X.pn ++ pins))) K3 gl hm q nd
    · exact ld_blt (X := X.suite a ((a, o3) :: (X.pn ++ pins))) K3 gl hm hv q nn nd
  refine clsName (isOne.here (codeAny_handlers_suite_as ?_))
  refine HandSPX.lands_againZ f3 fun g4 f4 u4 => ?_
  obtain ⟨o4, v4, e4, z4, d4⟩ := f4.there
  have J4 : Inv X pins σ' H' { t with heap := g4 } := J.landed nb f4.1 ((up.trans u3).trans u4) os ag
  have K4 := J4.suite e4 d4 na nL nF
  refine store_ok (X := X.suite a ((a, o4) :: (X.pn ++ pins))) (v := .ref a) K4 hN hi (.inl hln) rfl (fun t5 K5 => ?_) (.inr hln)
  refine wpAny_mono ((hsu a o4 cls d (X.pn ++ pins) z4 ⟨_, d4⟩).run [] t5 _ H' _ K5 (runs a J.len na)) (fun f t6 fin => ?_) fun _ _ z => False.elim z
  have done : ∀ {σ6 : SL} {H6 : Hp} {Q : Shared → Prop}, Inv (X.suite a ((a, o4) :: (X.pn ++ pins))) [] σ6 H6 t6 → (∀ t7, Inv X pins (σ6.set i none) (upd H6 a (CauH cls d a)) t7 → H6 a = none → Q t7) →
      wpAny (model X.prog X.w) X.A (do bindName X.env n .none; unbindBehindTheSuite X.env n pos') (fun _ t7 => Q t7) X.xe t6 := fun K6 k =>
    gone_ok (X := X.suite a ((a, o4) :: (X.pn ++ pins))) K6 hN hi hln fun t7 K7 => by
      obtain ⟨p1, p2, _⟩ := K7.pin (a, o4) (List.mem_append_left _ List.mem_cons_self)
      exact k t7 (inv_track (K7.unsuite okX) p1 z4 d4 p2 nL n0 npin) p2
  cases f with
  | next =>
    obtain ⟨σ6, H6, K6, w⟩ := fin
    exact done K6 fun t7 J7 e => ⟨_, _, J7, w e⟩
  | brk =>
    obtain ⟨σ6, H6, K6, w⟩ := fin
    exact done K6 fun t7 J7 e => ⟨_, _, J7, w e⟩
  | cont =>
    obtain ⟨σ6, H6, K6, w⟩ := fin
    exact done K6 fun t7 J7 e => ⟨_, _, J7, w e⟩
  | ret u =>
    obtain ⟨v6, σ6, H6, K6, r6, w⟩ := fin
    exact done K6 fun t7 J7 e => ⟨_, _, _, J7, r6, w e⟩
/-- try: body / except x as n: suite; the exception stays in the heap's account -/
theorem ps_try_hold {body : List Stmt} {tb : WX → TS} {pos : Pos} (hs : X.stack = X.env :: X.outer) (hf : X.env.frame = some X.env.locals) (hN : X.N.Nodup) (hi : X.N[i]? = some n) (hln : X.env.kindOf n = some .local) (hc : Names X x c)
    (hb : ∀ (W : WX) (pins : List (Addr × Obj)) (xe : Value → Shared → Prop), Takes (X.tr (X.pn ++ pins) xe) W → PassesOwn (model X.prog X.w) X.A X.env xe → PSs (X.tr (X.pn ++ pins) xe) body (tb W))
    (hsu : ∀ (a : Addr) (oe : Obj) (cls : Value) (d : Option Addr) (pn : List (Addr × Obj)), Zc cls d oe → (∃ vs, oe.data = .fields vs) → PSs (X.suite a ((a, oe) :: pn)) (b₀ :: suite) (ts a cls d)) :
    PS X (.Try body [clause x np n b₀ suite pos'] [] [] pos) (fun D σ H => tb (wHold X.K X.N.length c i ts D) D σ H) := by
  refine ⟨fun pins s σ H D I h => ?_⟩
  have okX := I.ok
  have B := hb (wHold X.K X.N.length c i ts D) pins (airX X pins D [clause x np n b₀ suite pos']) (hold_takes hs hf hN hi hln hc okX hsu) PassesOwn.looking
  refine wpAny_Try_except (wpAny_mono (B.run [] s σ H D (I.toTry _) h) (fun f t1 fin => ?_) fun _ _ z => z)
  cases f with
  | next =>
    obtain ⟨σ1, H1, J1, w⟩ := fin
    exact wpAny_execs_nil ⟨σ1, H1, J1.ofTry okX, w⟩
  | brk =>
    obtain ⟨σ1, H1, J1, w⟩ := fin
    exact ⟨σ1, H1, J1.ofTry okX, w⟩
  | cont =>
    obtain ⟨σ1, H1, J1, w⟩ := fin
    exact ⟨σ1, H1, J1.ofTry okX, w⟩
  | ret u =>
    obtain ⟨v1, σ1, H1, J1, r1, w⟩ := fin
    exact ⟨v1, σ1, H1, J1.ofTry okX, r1, w⟩
end
section
variable {g : Stat} {N : List Str} {sc : Scope} {d : Nat} {c : Cfg} {pos : Pos}
theorem XOk.toTr {X : Cx} {zt : Zt} (ok : XOk g N sc d c X zt) (pins : List (Addr × Obj)) (xe : Value → Shared → Prop) : XOk g N sc d c (X.tr (X.pn ++ pins) xe) zt where
  N_ := ok.N_
  sc_ := ok.sc_
  nd := ok.nd
  room := ok.room
  gds := ok.gds
  calm := ok.calm
  glob := ok.glob
  bl := ok.bl
  im := ok.im
  calls := ok.calls
  exc := ok.exc
  lm := ok.lm
  dd := ok.dd
  lams := fun pins' σd σ H s m av S I En R => ok.lams pins σd σ H s m av S (I.ofTry I.ok.ofTry) En R
  tab := ok.tab
/-- one expression within a try -/
def tTry (X : Cx) (e : Expr) (k : V → Ends → SL → Hp → Prop) (W : WX) : TS := fun D σ H => ∀ (pins : List (Addr × Obj)) (xe : Value → Shared → Prop), Takes (X.tr (X.pn ++ pins) xe) W → we (X.tr (X.pn ++ pins) xe) e σ H fun v H1 => k v D σ H1
/-- what is caught, kept -/
theorem caught_rel {Z : Kc} {ou : Option (En × SL)} {m av : List Addr} {H' : Hp} {S : Sto} {k : Nat} {p : PyData} {C dd a : Addr} {fs : List (Str × V)} {v : V} (R : Rel Z ou m av H' S) (hC : Z.ca k = some C) (nd : dd ∉ av) (hd : H' dd = some (.xd fs)) (lk : fs.lookup ("value" : Str) = some v) (r : Rep Z.K H' av p v) (ha : H' a = none) :
    Evo m H' [] (upd H' a (CauH (.ref C) (some dd) a)) ∧ Rel Z ou m av (upd H' a (CauH (.ref C) (some dd) a)) S ∧ RepA Z (upd H' a (CauH (.ref C) (some dd) a)) m av (.exc k p) (.ref a) := by
  obtain ⟨E2, R2, na⟩ := R.laid (o := CauH (.ref C) (some dd) a) ha
  refine ⟨E2, R2, a, C, dd, fs, v, rfl, hC, upd_same, na, ?_, nd, lk, ?_⟩
  · rw [upd_ne (ne_of_none hd ha)]; exact hd
  · have z := Rep.evo E2 R.sub r
    rw [List.append_nil] at z
    exact z
theorem ss_tryS {i j n : Nat} {x y nm cx : Str} {e : Expr} {e' : Ex} {k : Nat} {p1 p2 p3 p4 p5 np pos' : Pos} (hx : N[i]? = some x) (hxl : Loc sc x) (hy : N[j]? = some y) (hyl : Loc sc y) (hn : N[n]? = some nm) (hnl : sc.names.lookup nm = some .local) (hj : j ≠ n)
    (hc : Gb sc cx) (hk : g.cn cx = some k) (dc : (cx == ("__debug__" : Str)) = false) (d1 : (nm == ("__debug__" : Str)) = false) (d2 : (nm == ("__classdict__" : Str)) = false) (he : SE g N sc d c e e') (sw : ∀ env, swapsWith e (some (.Name x p1)) p2.line env = pure false) (sw2 : ∀ env, swapsWith (.Name nm p4) (some (.Name y p3)) p5.line env = pure false) :
    SS g N sc d c (.Try [.Assign [.Name x p1] e p2] [clause cx np nm (.Assign [.Name y p3] (.Name nm p4) p5) [] pos'] [] [] pos) (.tryS i e' (g.sb k) n j) := by
  intro X zt ok W tk σd σ H m av S D EX hW En R P
  rw [st] at P
  obtain ⟨C, h1, h2, _⟩ := ok.exc.made cx k hk
  refine ws_of (ps_try_hold (x := cx) (n := nm) (c := .ref C) (i := n) (tb := tTry X e fun v D σ H1 => D.nx (σ.set i (some v)) H1) (ts := fun a cls d D σ H => ∃ v, σ[n]? = some (some v) ∧ D.nx (σ.set j (some v)) H)
    ok.stk ok.frm (by rw [ok.N_]; exact ok.nd) (by rw [ok.N_]; exact hn) (by show X.env.scope.names.lookup nm = _; rw [ok.sc_]; exact hnl) ⟨ok.gl hc, dc, .inl h1⟩ ?_ ?_) ?_
  · intro W pins xe tk po
    have h := pss_cons (X := X.tr (X.pn ++ pins) xe) (ps_set (X := X.tr (X.pn ++ pins) xe) (i := i) (x := x) (e := e) (pos' := p1) (pos := p2) (by rw [ok.N_]; exact ok.nd) (by rw [ok.N_]; exact hx) (by rw [ok.sc_]; exact hxl) pe_we (sw _) (.inl (ok.fnT _))) pss_nil
    exact ⟨fun pins' s σ H D I q => h.run pins' s σ H D I (q pins xe tk)⟩
  · intro a oe cls d pn hz hf
    have h := pss_cons (X := X.suite a ((a, oe) :: pn)) (ps_set (X := X.suite a ((a, oe) :: pn)) (i := j) (x := y) (e := .Name nm p4) (pos' := p3) (pos := p5) (by rw [ok.N_]; exact ok.nd) (by rw [ok.N_]; exact hy) (by rw [ok.sc_]; exact hyl) (pe_var (i := n) (by rw [ok.N_]; exact hn) (by rw [ok.sc_]; exact .inl hnl) d1 d2) (sw2 _) (.inl (ok.fnT _))) pss_nil
    exact ⟨fun pins' s σ H D I q => h.run pins' s σ H D I q⟩
  · intro pins xe tk2
    refine he (X.tr (X.pn ++ pins) xe) zt (ok.toXOk.toTr pins xe) _ tk2 σd σ H m av S _ (fun cls d H' => wHold X.K X.N.length (.ref C) n (fun a cls d D σ H => ∃ v, σ[n]? = some (some v) ∧ D.nx (σ.set j (some v)) H) D cls d σ H') (fun _ _ _ z => z) En R ?_
    cases q : ev c e' σd S with
    | no => rw [q] at P; exact P
    | ok x1 S1 =>
      rw [q] at P
      intro ms H1 v E1 R1 r1
      exact P ms H1 (FV.nx _) E1 R1 (EnR.set (En.evo R E1) i r1)
    | ex k' p S1 =>
      rw [q] at P
      intro ms H1 cls dq E1 R1 hx
      obtain ⟨C', dd, fs, v, hC', rfl, rfl, nd, hd, lk, r⟩ := hx
      by_cases hs : (g.sb k).contains k' = true
      case neg => simp only [hs] at P; exact P.elim
      simp only [hs, if_true] at P
      refine ⟨by rw [(ok.exc.sub k k' C C' h2 hC').1, hs], fun a hl na => ?_⟩
      have ln : n < σ.length := by rw [hl, ok.N_]; exact (List.getElem?_eq_some_iff.mp hn).1
      refine ⟨.ref a, List.getElem?_set_self ln, fun na2 => ?_⟩
      obtain ⟨E2, R2, r2⟩ := caught_rel (m := m ++ ms) R1 hC' nd hd lk r na
      have E3 := Evo.trans R1 E1 E2
      rw [List.append_nil] at E3
      have En1 := EnR.evo R1 E2 (En.evo R E1)
      rw [List.append_nil, List.append_nil] at En1
      have e : ((σ.set n (some (V.ref a))).set j (some (V.ref a))).set n none = (σ.set j (some (V.ref a))).set n none := by
        rw [List.set_comm _ _ hj.symm, List.set_set]
      rw [e]
      exact P ms _ (FV.nx _) E3 R2 (EnR.forget (EnR.set En1 j r2) n)
/-- how the body's statement ends -/
def okEnd (i : Option Nat) (v : V) (D : Ends) (σ : SL) (H1 : Hp) : Prop := match i with
  | some j => D.nx (σ.set j (some v)) H1
  | none => D.rt v H1
/-- (error, None) is handed back -/
def tPair (n : Nat) : TS := fun D σ H => ∃ v, σ[n]? = some (some v) ∧ ∀ T, H T = none → D.rt (.ref T) (upd H T (.tup [v, .non]))
theorem ss_tryR {i : Option Nat} {n : Nat} {x nm cx : Str} {e : Expr} {e' : Ex} {k : Nat} {s0 : Stmt} {p1 p2 p3 p4 p5 p6 np pos' : Pos} {kt j5} (h0 : (∃ j, i = some j ∧ N[j]? = some x ∧ Loc sc x ∧ s0 = .Assign [.Name x p1] e p2 ∧ ∀ env, swapsWith e (some (.Name x p1)) p2.line env = pure false) ∨ (i = none ∧ s0 = .Return (some e) p2)) (hn : N[n]? = some nm) (hnl : sc.names.lookup nm = some .local)
    (hc : Gb sc cx) (hk : g.cn cx = some k) (dc : (cx == ("__debug__" : Str)) = false) (d1 : (nm == ("__debug__" : Str)) = false) (d2 : (nm == ("__classdict__" : Str)) = false) (he : SE g N sc d c e e') :
    SS g N sc d c (.Try [s0] [clause cx np nm (.Return (some (.Tuple [.Name nm p3, .Constant .none j5 p4] kt p5)) p6) [] pos'] [] [] pos) (.tryR i e' (g.sb k) n) := by
  intro X zt ok W tk σd σ H m av S D EX hW En R P
  rw [st] at P
  obtain ⟨C, h1, h2, _⟩ := ok.exc.made cx k hk
  refine ws_of (ps_try_hold (x := cx) (n := nm) (c := .ref C) (i := n) (tb := tTry X e fun v D σ H1 => okEnd i v D σ H1) (ts := fun a cls d => tPair n)
    ok.stk ok.frm (by rw [ok.N_]; exact ok.nd) (by rw [ok.N_]; exact hn) (by show X.env.scope.names.lookup nm = _; rw [ok.sc_]; exact hnl) ⟨ok.gl hc, dc, .inl h1⟩ ?_ ?_) ?_
  · intro W pins xe tk po
    rcases h0 with ⟨j, rfl, hx, hxl, rfl, sw⟩ | ⟨rfl, rfl⟩
    · have h := pss_cons (X := X.tr (X.pn ++ pins) xe) (ps_set (X := X.tr (X.pn ++ pins) xe) (i := j) (x := x) (e := e) (pos' := p1) (pos := p2) (by rw [ok.N_]; exact ok.nd) (by rw [ok.N_]; exact hx) (by rw [ok.sc_]; exact hxl) pe_we (sw _) (.inl (ok.fnT _))) pss_nil
      exact ⟨fun pins' s σ H D I q => h.run pins' s σ H D I (q pins xe tk)⟩
    · have h := pss_cons (X := X.tr (X.pn ++ pins) xe) (ps_ret (X := X.tr (X.pn ++ pins) xe) (e := e) (pos := p2) pe_we) pss_nil
      exact ⟨fun pins' s σ H D I q => h.run pins' s σ H D I (q pins xe tk)⟩
  · intro a oe cls d pn hz hf
    have h := pss_cons (X := X.suite a ((a, oe) :: pn)) (ps_ret (X := X.suite a ((a, oe) :: pn)) (pos := p6) (pe_tup (x1 := kt) (pos := p5) (pa_cons (pe_var (i := n) (pos := p3) (by rw [ok.N_]; exact hn) (by rw [ok.sc_]; exact .inl hnl) d1 d2) (pa_cons (pe_non (j := j5) (pos := p4)) pa_nil)))) pss_nil
    refine ⟨fun pins' s σ H D I q => h.run pins' s σ H D I ?_⟩
    obtain ⟨v, hv, q⟩ := q
    exact ⟨v, hv, small _ (by simp), fun T hT => q T hT⟩
  · intro pins xe tk2
    refine he (X.tr (X.pn ++ pins) xe) zt (ok.toXOk.toTr pins xe) _ tk2 σd σ H m av S _ (fun cls d H' => wHold X.K X.N.length (.ref C) n (fun a cls d => tPair n) D cls d σ H') (fun _ _ _ z => z) En R ?_
    cases q : ev c e' σd S with
    | no => rw [q] at P; exact P
    | ok x1 S1 =>
      rw [q] at P
      intro ms H1 v E1 R1 r1
      cases i with
      | none => exact P ms H1 (FV.rt _) E1 R1 r1
      | some i => exact P ms H1 (FV.nx _) E1 R1 (EnR.set (En.evo R E1) i r1)
    | ex k' p S1 =>
      rw [q] at P
      intro ms H1 cls dq E1 R1 hx
      obtain ⟨C', dd, fs, v, hC', rfl, rfl, nd, hd, lk, r⟩ := hx
      by_cases hs : (g.sb k).contains k' = true
      case neg => simp only [hs] at P; exact P.elim
      simp only [hs, if_true] at P
      refine ⟨by rw [(ok.exc.sub k k' C C' h2 hC').1, hs], fun a hl na => ?_⟩
      have ln : n < σ.length := by rw [hl, ok.N_]; exact (List.getElem?_eq_some_iff.mp hn).1
      refine ⟨.ref a, List.getElem?_set_self ln, fun T hT na2 => ?_⟩
      have neq : T ≠ a := fun z => by
        rw [z, upd_same] at na2; cases na2
      obtain ⟨E2, R2, nT⟩ := R1.laid (o := .tup [.ref a, .non]) hT
      have hd2 : upd H1 T (.tup [.ref a, .non]) dd = some (.xd fs) := by rw [upd_ne (ne_of_none hd hT)]; exact hd
      have r2 := Rep.evo E2 R1.sub r
      rw [List.append_nil] at r2
      obtain ⟨E3, R3, r3⟩ := caught_rel R2 hC' nd hd2 lk r2 na2
      have E12 := Evo.trans R1 E1 E2
      rw [List.append_nil] at E12
      have E4 := Evo.trans R2 E12 E3
      rw [List.append_nil] at E4
      exact P ms _ (FV.rt _) E4 R3 ⟨T, [.ref a, .non], rfl, by rw [upd_ne neq]; exact upd_same, nT, r3, .non, trivial⟩
end
end Pv
set_option Elab.async false
set_option maxRecDepth 100000
set_option linter.unusedVariables false
/-! Pv10: loops; append. -/
namespace Pv
open PySem PySem.Spec PyProof.Rows L2
section
variable {g : Stat} {N : List Str} {sc : Scope} {d : Nat} {c : Cfg} {pos : Pos}
/-- the state of a loop -/
def LpSt (Z : Kc) (ou : Option (En × SL)) (m av : List Addr) (H0 : Hp) (r : En → Sto → R Fl) (D : Ends) (EX : XK) (σ : SL) (H : Hp) : Prop :=
  ∃ ms S σd, Evo m H0 ms H ∧ Rel Z ou (m ++ ms) (av ++ ms) H S ∧ EnR Z H (m ++ ms) (av ++ ms) σd σ ∧ PostS Z ou (m ++ ms) (av ++ ms) H (r σd S) D EX
/-- one turn's body -/
theorem lp_body {Z : Kc} {ou : Option (En × SL)} {EX : XK} {m av ms : List Addr} {H0 H : Hp} {b : R Fl} {r : En → Sto → R Fl} {D : Ends} {Nx : SL → Hp → Prop} (hN : ∀ σ H, LpSt Z ou m av H0 r D EX σ H → Nx σ H) (E : Evo m H0 ms H) {S0 : Sto} (R : Rel Z ou (m ++ ms) (av ++ ms) H S0)
    (P : PostS Z ou (m ++ ms) (av ++ ms) H (b.bind fun f S2 => match f with
      | .nx σ' => r σ' S2
      | .ct σ' => r σ' S2
      | .bk σ' => .ok (.nx σ') S2
      | .rt a => .ok (.rt a) S2) D EX) : PostS Z ou (m ++ ms) (av ++ ms) H b { D with nx := Nx, ct := Nx, bk := D.nx } EX := by
  refine P.into fun f S2 e1 ns H1 v E1 R1 r1 => ?_
  have P1 := P.step e1 E1 R1
  have E2 := Evo.trans R E E1
  have app : (m ++ ms) ++ ns = m ++ (ms ++ ns) := List.append_assoc _ _ _
  have app2 : (av ++ ms) ++ ns = av ++ (ms ++ ns) := List.append_assoc _ _ _
  cases f with
  | nx σd' =>
    cases v with
    | nx σ' =>
      have r2 : EnR Z H1 (m ++ ms ++ ns) (av ++ ms ++ ns) σd' σ' := r1
      rw [app, app2] at R1 P1 r2
      exact hN _ _ ⟨ms ++ ns, S2, σd', E2, R1, r2, P1⟩
    | _ => exact r1.elim
  | ct σd' =>
    cases v with
    | ct σ' =>
      have r2 : EnR Z H1 (m ++ ms ++ ns) (av ++ ms ++ ns) σd' σ' := r1
      rw [app, app2] at R1 P1 r2
      exact hN _ _ ⟨ms ++ ns, S2, σd', E2, R1, r2, P1⟩
    | _ => exact r1.elim
  | bk σd' =>
    cases v with
    | bk σ' => exact P1.toNx R1 r1
    | _ => exact r1.elim
  | rt a =>
    cases v with
    | rt v => exact P1.toRt R1 r1
    | _ => exact r1.elim
theorem ss_whl {t : Expr} {t' : Ex} {b : List Stmt} {b' : Ss} (ht : ST g N sc d c t t') (hb : SSs g N sc d c b b') : SS g N sc d c (.While t b [] pos) (.whl t' b') := by
  intro X zt ok W tk σd σ H m av S D EX hW En R P
  simp only [st] at P
  refine ws_of (ps_while ok.own pt_wt pss_wss) ?_
  refine ⟨fun n σ H' => LpSt (zc X zt) zt.ou m av H (whlGo (fun σ S => (ev c t' σ S).bind fun x S1 => Pv.R.opt S1 ((rd S1 x).bind truthD)) (fun σ S => sts c b' σ S) n) D EX σ H', ⟨c.fuel, [], S, σd, Evo.refl, by rw [List.append_nil, List.append_nil]; exact R, by rw [List.append_nil, List.append_nil]; exact En, by rw [List.append_nil, List.append_nil]; exact P⟩, ?_⟩
  rintro n σ1 H1 ⟨ms, S1, σd1, E1, R1, En1, P1⟩
  cases n with
  | zero => exact P1.elim
  | succ n =>
    simp only [whlGo] at P1
    refine ht X zt ok.toXOk W tk σd1 σ1 H1 _ _ S1 _ _ (hW _) En1 R1 (P1.into fun k S2 e2 ns H2 v E2 R2 r2 => ?_)
    have r2' : v = k := r2
    subst r2'
    have P2 := P1.step e2 E2 R2
    have En2 := EnR.evo R1 E2 En1
    cases v with
    | false =>
      rw [if_neg Bool.false_ne_true]
      rw [if_neg Bool.false_ne_true] at P2
      exact P2.toNx R2 En2
    | true =>
      rw [if_pos rfl]
      rw [if_pos rfl] at P2
      refine ⟨_, fun σ' H' w => ⟨n, Nat.lt_succ_self n, w⟩, hb X zt ok W tk σd1 σ1 H2 _ _ S2 _ _ hW En2 R2 ?_⟩
      have E3 := Evo.trans R1 E1 E2
      rw [List.append_assoc, List.append_assoc] at R2 P2
      rw [List.append_assoc, List.append_assoc]
      exact lp_body (fun σ H w => w) E3 R2 P2
/-- what a for does with its items -/
abbrev forB (c : Cfg) (t : Tg) (b' : Ss) : PyData → En → Sto → R Fl := fun y σ S => match setTg t y σ with
  | some σ' => sts c b' σ' S
  | none => .no
theorem lp_keep {Z : Kc} {ou : Option (En × SL)} {EX : XK} {m av : List Addr} {H : Hp} {S : Sto} (R : Rel Z ou m av H S) {r : Pv.En → Sto → Pv.R Fl} {D : Ends} {σ : SL} {H' : Hp} (w : LpSt Z ou m av H r D EX σ H') {a : Addr} (n : a ∉ av) {o : HO} (h : H a = some o) : H' a = some o := by
  obtain ⟨ms, S1, σd1, E1, _⟩ := w
  exact E1.keep a _ h fun z => n (R.sub a z)
/-- an item that comes, as it lies then -/
theorem item_now {Z : Kc} {ou : Option (En × SL)} {EX : XK} {m av : List Addr} {H0 H : Hp} {S0 : Sto} (R0 : Rel Z ou m av H0 S0) {r : Pv.En → Sto → Pv.R Fl} {D : Ends} {σ : SL} {H'' : Hp} {x : PyData} {v : V} (w : LpSt Z ou m av H0 r D EX σ H) (it : ItemR Z.K H0 av x v H H'') :
    ∃ ms S σd, Evo m H0 ms H'' ∧ Rel Z ou (m ++ ms) (av ++ ms) H'' S ∧ EnR Z H'' (m ++ ms) (av ++ ms) σd σ ∧ PostS Z ou (m ++ ms) (av ++ ms) H'' (r σd S) D EX ∧ Rep Z.K H'' (av ++ ms) x v := by
  obtain ⟨ms, S1, σd, E1, R1, En1, P1⟩ := w
  rcases it with ⟨rfl, rx⟩ | ⟨T, x1, x2, v1, v2, rfl, rfl, hT, rfl, r1, r2⟩
  · exact ⟨ms, S1, σd, E1, R1, En1, P1, Rep.evo E1 R0.sub rx⟩
  · obtain ⟨E2, R2, nT⟩ := R1.laid (o := .tup [v1, v2]) hT
    have E3 := Evo.trans R1 E1 E2
    rw [List.append_nil] at E3
    have En2 := EnR.evo R1 E2 En1
    rw [List.append_nil, List.append_nil] at En2
    have P2 := Post.step (r := Pv.R.ok () S1) (f := fun _ S => r σd S) P1 rfl E2 (by rw [List.append_nil, List.append_nil]; exact R2)
    rw [List.append_nil, List.append_nil] at P2
    exact ⟨ms, S1, σd, E3, R2, En2, P2, .tupH (.inl upd_same) nT (.cons (Rep.evo E3 R0.sub r1) (.cons (Rep.evo E3 R0.sub r2) .nil))⟩
theorem for_turn {X : Cx} {zt : Zt} (ok : XOkS g N sc d c X zt) {W : WX} (tk : Takes X W) {EX : XK} (hW : ∀ σ' cls d H', EX cls d H' → W cls d σ' H') {t : Tg} {b : List Stmt} {b' : Ss} (hb : SSs g N sc d c b b') {H : Hp} {m av : List Addr} {S : Sto} (R : Rel (zc X zt) zt.ou m av H S) {xs : List PyData} {D : Ends} {i : Nat} {x : PyData} {v : V} {σ : SL} {H' H'' : Hp} (hx : xs[i]? = some x)
    (w : LpSt (zc X zt) zt.ou m av H (forGo (forB c t b') (xs.drop i)) D EX σ H') (it : ItemR X.K H av x v H' H'') :
    tgR X.K t v σ H'' fun σ2 H2 => wss X b { D with nx := LpSt (zc X zt) zt.ou m av H (forGo (forB c t b') (xs.drop (i + 1))) D EX, ct := LpSt (zc X zt) zt.ou m av H (forGo (forB c t b') (xs.drop (i + 1))) D EX, bk := D.nx } σ2 H2 := by
  obtain ⟨ms, S1, σd1, E1, R1, En1, P1, rx⟩ := item_now (Z := zc X zt) R w it
  have hdrop : xs.drop i = x :: xs.drop (i + 1) := by
    obtain ⟨h1, h2⟩ := List.getElem?_eq_some_iff.mp hx
    rw [List.drop_eq_getElem_cons h1, h2]
  rw [hdrop] at P1
  simp only [forGo] at P1
  cases q : setTg t x σd1 with
  | none => simp only [forB, q] at P1; exact P1.elim
  | some σd2 =>
    have P2 : PostS (zc X zt) zt.ou (m ++ ms) (av ++ ms) H'' ((sts c b' σd2 S1).bind fun f S2 => match f with
      | .nx σ' => forGo (forB c t b') (xs.drop (i + 1)) σ' S2
      | .ct σ' => forGo (forB c t b') (xs.drop (i + 1)) σ' S2
      | .bk σ' => .ok (.nx σ') S2
      | .rt a => .ok (.rt a) S2) D EX := by
      have e : forB c t b' x σd1 S1 = sts c b' σd2 S1 := by unfold forB; rw [q]
      rw [e] at P1; exact P1
    refine tg_ok (Z := zc X zt) En1 rx q fun σ2 En2 _ => ?_
    exact hb X zt ok W tk σd2 σ2 H'' _ _ S1 _ _ hW En2 R1 (lp_body (fun σ H w => w) E1 R1 P2)
theorem for_done {Z : Kc} {ou : Option (En × SL)} {EX : XK} {m av : List Addr} {H : Hp} {f : PyData → Pv.En → Sto → Pv.R Fl} {xs : List PyData} {D : Ends} {σ : SL} {H' : Hp} (w : LpSt Z ou m av H (forGo f (xs.drop xs.length)) D EX σ H') : D.nx σ H' := by
  obtain ⟨ms, S1, σd1, E1, R1, En1, P1⟩ := w
  rw [List.drop_length] at P1
  exact P1.toNx R1 En1
theorem ss_for {tg it : Expr} {t : Tg} {it' : Itr} {b : List Stmt} {b' : Ss} (ht : TrT N sc sc tg t) (hi : SI g N sc d c tg it it') (hb : SSs g N sc d c b b') (hfo : ∀ env v, foldedSetIterable it env v = pure v) : SS g N sc d c (.For tg it b [] pos) (.for_ t it' b') := by
  intro X zt ok W tk σd σ H m av S D EX hW En R P
  rw [st] at P
  refine ws_of (ps_for (wi := wI X tg it) (g := tgR X.K t) ok.own ok.calm pi_wI (pg_own ok ht) pss_wss (hfo _)) ?_
  refine hi X zt ok.toXOk W tk σd σ H m av S _ _ (hW _) En R (P.into fun xs S1 e1 ms H1 J E1 R1 G => ?_)
  have P1 := P.step e1 E1 R1
  have En1 := En.evo R E1
  exact for_it G.walk (fun i σ H' => LpSt (zc X zt) zt.ou (m ++ ms) (av ++ ms) H1 (forGo (forB c t b') (xs.drop i)) D EX σ H')
    ⟨[], S1, σd, Evo.refl, by rw [List.append_nil, List.append_nil]; exact R1, by rw [List.append_nil, List.append_nil]; exact En1, by rw [List.append_nil, List.append_nil]; exact P1⟩
    (fun i σ H' _ w a n o h => lp_keep R1 w n h) (fun i v σ H' H'' hi w y => by
      obtain ⟨x, hx, it⟩ := y
      exact for_turn ok tk hW hb R1 hx w it) (fun σ H' w => for_done w)
/-- over a list of the store, by its place -/
theorem ss_forL {tg it : Expr} {t : Tg} {it' : Ex} {b : List Stmt} {b' : Ss} (ht : TrT N sc sc tg t) (hi : SE g N sc d c it it') (hb : SSs g N sc d c b b') (hfo : ∀ env v, foldedSetIterable it env v = pure v) : SS g N sc d c (.For tg it b [] pos) (.forL t it' b') := by
  intro X zt ok W tk σd σ H m av S D EX hW En R P
  rw [st] at P
  refine ws_of (ps_for (wi := iSeq X it) (g := tgR X.K t) ok.own ok.calm pi_seq (pg_own ok ht) pss_wss (hfo _)) ?_
  refine hi X zt ok.toXOk W tk σd σ H m av S _ _ (hW _) En R (P.into fun x S1 e1 ms H1 v E1 R1 r1 => ?_)
  have P1 := P.step e1 E1 R1
  have En1 := En.evo R E1
  cases x with
  | ref r =>
    obtain ⟨a, hr, rfl⟩ := r1
    -- the list at the state of a turn
    have look : ∀ {n i σ' H'}, LpSt (zc X zt) zt.ou (m ++ ms) (av ++ ms) H1 (forLGo (fun y σ S => match setTgA t y σ with | some σ' => sts c b' σ' S | none => .no) r n i) D EX σ' H' →
        ∃ n', n = n' + 1 ∧ ∃ ns S2 σd2 as vs, Evo (m ++ ms) H1 ns H' ∧ Rel (zc X zt) zt.ou (m ++ ms ++ ns) (av ++ ms ++ ns) H' S2 ∧ EnR (zc X zt) H' (m ++ ms ++ ns) (av ++ ms ++ ns) σd2 σ' ∧ H' a = some (.lst vs) ∧ RepL (zc X zt) H' (m ++ ms ++ ns) (av ++ ms ++ ns) as vs ∧
          PostS (zc X zt) zt.ou (m ++ ms ++ ns) (av ++ ms ++ ns) H' (match as[i]? with
            | some x => ((match setTgA t x σd2 with | some σ' => sts c b' σ' S2 | none => .no) : Pv.R Fl).bind fun f S2 => (match f with
              | .nx σ' => forLGo (fun y σ S => match setTgA t y σ with | some σ' => sts c b' σ' S | none => .no) r n' (i + 1) σ' S2
              | .ct σ' => forLGo (fun y σ S => match setTgA t y σ with | some σ' => sts c b' σ' S | none => .no) r n' (i + 1) σ' S2
              | .bk σ' => .ok (.nx σ') S2
              | .rt a => .ok (.rt a) S2)
            | none => .ok (.nx σd2) S2) D EX := by
      rintro n i σ' H' ⟨ns, S2, σd2, E2, R2, En2, P2⟩
      cases n with
      | zero => exact P2.elim
      | succ n =>
        unfold forLGo at P2
        split at P2
        · rename_i as has
          obtain ⟨a', vs, h1, h2, h3⟩ := R2.atL has
          have h4 : (m ++ ms ++ ns)[r]? = some a := by
            rw [List.getElem?_append_left (List.getElem?_eq_some_iff.mp hr).1]; exact hr
          rw [h4] at h1; cases h1
          exact ⟨n, rfl, ns, S2, σd2, as, vs, E2, R2, En2, h2, h3, P2⟩
        · exact P2.elim
    have W0 : LpSt (zc X zt) zt.ou (m ++ ms) (av ++ ms) H1 (forLGo (fun y σ S => match setTgA t y σ with | some σ' => sts c b' σ' S | none => .no) r c.fuel 0) D EX σ H1 :=
      ⟨[], S1, σd, Evo.refl, by rw [List.append_nil, List.append_nil]; exact R1, by rw [List.append_nil, List.append_nil]; exact En1, by rw [List.append_nil, List.append_nil]; exact P1⟩
    obtain ⟨_, _, ns0, _, _, as0, vs0, _, _, _, h0, _⟩ := look W0
    refine .inl ⟨a, vs0, rfl, .inl (.inl h0), fun _ => ?_⟩
    refine ⟨fun i n σ' H' => LpSt (zc X zt) zt.ou (m ++ ms) (av ++ ms) H1 (forLGo (fun y σ S => match setTgA t y σ with | some σ' => sts c b' σ' S | none => .no) r n i) D EX σ' H', ⟨c.fuel, W0⟩, fun i n σ' H' w => ?_⟩
    obtain ⟨n', rfl, ns, S2, σd2, as, vs, E2, R2, En2, hl, rl, P2⟩ := look w
    cases hx : as[i]? with
    | none =>
      simp only [hx] at P2
      exact .inl ⟨⟨vs, .inl (.inl hl), by rw [← RepL.length rl]; exact List.getElem?_eq_none_iff.mp hx⟩, P2.toNx R2 En2⟩
    | some x =>
      simp only [hx] at P2
      obtain ⟨v, hv, rv⟩ := RepL.get rl hx
      refine .inr ⟨⟨vs, v, .inl (.inl hl), hv⟩, _, fun σ3 H3 w3 => ⟨n', Nat.lt_succ_self n', w3⟩, fun u H3 y => ?_⟩
      obtain ⟨rfl, hy⟩ := y
      have e := hy vs (.inl (.inl hl))
      rw [hv] at e; cases e
      cases q : setTgA t x σd2 with
      | none => rw [q] at P2; exact P2.elim
      | some σd3 =>
        rw [q] at P2
        refine tgA_ok (Z := zc X zt) En2 rv q fun σ3 En3 => ?_
        exact hb X zt ok W tk σd3 σ3 _ _ _ S2 _ _ hW En3 R2 (lp_body (fun σ H w => w) E2 R2 P2)
  | _ => exact P1.elim
theorem ss_app {o e : Expr} {o' e' : Ex} {apos cpos : Pos} (ho : SE g N sc d c o o') (he : SE g N sc d c e e') (sa : ∀ es env, starEach (e :: es) env = (false, eval e env) :: starEach es env) (hbase : ∀ env whole, attributeBase o "append" env whole = whole) (hline : (apos.endLine == cpos.line) = true) :
    SS g N sc d c (.Expr (.Call (.Attribute o "append" apos) [e] [] cpos) pos) (.app o' e') := by
  intro X zt ok W tk σd σ H m av S D EX hW En R P
  simp only [st] at P
  have few : ((backTo cpos (starEach [e] X.env)).all (fun x => !x.1) && (backToKw cpos (keywordEach [] X.env)).all (fun x => x.1.isSome) && decide ((e :: []).length + ([] : List Keyword).length + (if ([] : List Keyword).isEmpty then 0 else 1) < 30)) = true := by
    rw [sa]; rfl
  refine ws_of (ps_expr (pe_bm PySem.F.plainAttrs_list PySem.F.slot_list_append PySem.F.type_list_append mt_append pe_we (pa_cons pe_we pa_nil (sa _ _)) (hbase _ _) few hline (sa _ _))) ?_
  refine ho X zt ok.toXOk W tk σd σ H m av S _ _ (hW _) En R (P.into fun x S1 e1 ms H1 v E1 R1 r1 => ?_)
  have P1 := P.step e1 E1 R1
  have En1 := En.evo R E1
  cases x with
  | ref r =>
    by_cases hL : isL S1 r = true
    case neg => simp only [hL] at P1; exact P1.elim
    simp only [hL, if_true] at P1
    have ty : tyV X.K "list" v H1 := by
      obtain ⟨a, h1, rfl⟩ := r1
      unfold isL at hL
      split at hL
      · rename_i ds ho
        obtain ⟨b, vs, h2, h3, h4⟩ := R1.at_ ho
        rw [h1] at h2; cases h2
        exact .inl ⟨rfl, vs, .inl (.inl h3)⟩
      · rename_i as ho
        obtain ⟨b, vs, h2, h3, h4⟩ := R1.atL ho
        rw [h1] at h2; cases h2
        exact .inl ⟨rfl, vs, .inl (.inl h3)⟩
      · cases hL
    refine ⟨ty, he X zt ok.toXOk W tk σd σ H1 _ _ S1 _ _ (hW _) En1 R1 (P1.into fun y S2 e2 ns H2 u E2 R2 r2 => ?_)⟩
    have P2 := P1.step e2 E2 R2
    have En2 := EnR.evo R1 E2 En1
    have r1' := RepA.evo R1 E2 r1
    obtain ⟨a, h1, rfl⟩ := r1'
    split at P2
    · rename_i ds hds
      split at P2
      · rename_i y
        split at P2
        · rename_i hz
          obtain ⟨b, vs, h2, h3, h4⟩ := R2.at_ hds
          rw [h1] at h2; cases h2
          refine ⟨a, vs, u, rfl, rfl, h3, by rw [← h4.length]; exact hz, ?_⟩
          obtain ⟨E4, R4⟩ := R2.write h1 h3 (h4.append (.cons r2 .nil))
          have En4 := EnR.evo R2 E4 En2
          rw [List.append_nil, List.append_nil] at En4
          exact P2.later (v := FV.nx σ) (ms := []) E4 (by rw [List.append_nil, List.append_nil]; exact R4) (by rw [List.append_nil, List.append_nil]; exact En4)
        · exact P2.elim
      · exact P2.elim
    · rename_i as has
      split at P2
      · rename_i hz
        obtain ⟨b, vs, h2, h3, h4⟩ := R2.atL has
        rw [h1] at h2; cases h2
        refine ⟨a, vs, u, rfl, rfl, h3, by rw [← RepL.length h4]; exact hz, ?_⟩
        obtain ⟨E4, R4⟩ := R2.writeL h1 h3 (RepL.append h4 (show RepL (zc X zt) H2 _ _ [y] [u] from ⟨r2, trivial⟩))
        have En4 := EnR.evo R2 E4 En2
        rw [List.append_nil, List.append_nil] at En4
        exact P2.later (v := FV.nx σ) (ms := []) E4 (by rw [List.append_nil, List.append_nil]; exact R4) (by rw [List.append_nil, List.append_nil]; exact En4)
      · exact P2.elim
    · exact P2.elim
  | _ => exact P1.elim
end
end Pv
set_option Elab.async false
set_option maxRecDepth 100000
set_option linter.unusedVariables false
/-! Pv11: which text is which statement, as a relation and as a check. -/
namespace Pv
open PySem PySem.Spec PyProof.Rows L2

/-! ### the side words -/
def notComp : Expr → Bool
  | .ListComp _ _ _ _ => false
  | .SetComp _ _ _ _ => false
  | .DictComp _ _ _ _ _ => false
  | _ => true
def notTup : Expr → Bool
  | .Tuple _ _ _ => false
  | _ => true
def isStar : Expr → Bool
  | .Starred _ _ => true
  | _ => false
theorem swaps_no {e : Expr} (h : notComp e = true) (t : Option Expr) (l : Nat) (env : Env) : swapsWith e t l env = pure false := by
  cases e <;> first | rfl | (exact absurd h (by simp [notComp]))
theorem swaps_tup {e : Expr} (es : List Expr) (k : Nat) (p : Pos) (l : Nat) (env : Env) : swapsWith e (some (.Tuple es k p)) l env = pure false := by
  cases e <;> rfl
theorem swaps_sub {e : Expr} (o i : Expr) (p : Pos) (l : Nat) (env : Env) : swapsWith e (some (.Subscript o i p)) l env = pure false := by
  cases e <;> rfl
theorem swapped_no {e : Expr} (h : notTup e = true) (tg : Expr) (env : Env) : swappedStores [tg] e env = pure none := by
  cases e <;> first | (cases tg <;> rfl) | (exact absurd h (by simp [notTup]))
theorem swapped_sub {e : Expr} (o i : Expr) (p : Pos) (env : Env) : swappedStores [.Subscript o i p] e env = pure none := by
  cases e <;> rfl
theorem swapped_len {es vs : List Expr} {k k2 : Nat} {p p2 : Pos} (h : (!(es.length == 2 || es.length == 3) || vs.length != es.length) = true) (env : Env) : swappedStores [.Tuple es k p] (.Tuple vs k2 p2) env = pure none := by
  unfold swappedStores
  simp only
  rw [if_pos (by rw [h]; rfl)]
theorem swapped_folded {es vs : List Expr} {k k2 : Nat} {p p2 : Pos} (h : (vs.any isStar || vs.all (foldedForSure 8)) = true) (env : Env) : swappedStores [.Tuple es k p] (.Tuple vs k2 p2) env = pure none := by
  unfold swappedStores
  simp only
  split
  · rfl
  · split
    · rfl
    · rename_i _ h2
      have e : vs.any isStar = false := by
        cases q : vs.any isStar with
        | false => rfl
        | true => exact absurd q h2
      rw [e, Bool.false_or] at h
      split
      · rfl
      · first | rfl | rw [if_pos h]
theorem swapped_two {x y : Str} {px py pt pt2 : Pos} {kt k2 : Nat} {a b : Expr} {env : Env} (hk : env.scope.kind = .function) (hx : env.scope.names.lookup x = some .local) (hy : env.scope.names.lookup y = some .local) (hl : (py.line == px.line) = true) (hn : x ≠ y)
    (h : (!isStar a && !isStar b && !(foldedForSure 8 a && foldedForSure 8 b) && !(constantsAlone 8 a && constantsAlone 8 b)) = true) : swappedStores [.Tuple [.Name x px, .Name y py] kt pt] (.Tuple [a, b] k2 pt2) env = pure (some [x, y]) := by
  have hb : env.blockKind = .function := by unfold Env.blockKind; rw [hk]; rfl
  have kx : env.kindOf x = some .local := hx
  have ky : env.kindOf y = some .local := hy
  simp only [Bool.and_eq_true, Bool.not_eq_true'] at h
  obtain ⟨⟨⟨h1, h2⟩, h3⟩, h4⟩ := h
  unfold swappedStores
  simp only
  rw [if_neg (by rw [hb]; exact Bool.false_ne_true)]
  split
  · rename_i q
    have q' : ((isStar a) || (isStar b || false)) = true := q
    rw [h1, h2] at q'
    exact absurd q' (by decide)
  generalize hL : List.filterMap _ [Expr.Name x px, Expr.Name y py] = L
  have e2 : L = [x, y] := by
    rw [← hL]
    simp [kx, ky, Expr.pos, eq_of_beq hl]
  subst e2
  have e3 : [x, y].eraseDups = [x, y] := by
    have : ¬ (y == x) = true := fun z => hn (eq_of_beq z).symm
    have w : (y == x) = false := by cases q : y == x with
      | false => rfl
      | true => exact absurd q this
    simp [List.eraseDups_cons, List.filter, w]
  rw [e3]
  rw [if_neg (by simp)]
  rw [if_neg (by simp [h3])]
  rw [if_neg (by simp [h4])]
theorem swapped_three {x y z : Str} {px py pz pt pt2 : Pos} {kt k2 : Nat} {a b c : Expr} {env : Env} (hk : env.scope.kind = .function) (hx : env.scope.names.lookup x = some .local) (hy : env.scope.names.lookup y = some .local) (hz : env.scope.names.lookup z = some .local) (hl : (py.line == px.line) = true) (hl2 : (pz.line == px.line) = true) (hn : x ≠ y) (hn2 : x ≠ z) (hn3 : y ≠ z)
    (h : (!isStar a && !isStar b && !isStar c && !(foldedForSure 8 a && (foldedForSure 8 b && foldedForSure 8 c)) && !(constantsAlone 8 a && (constantsAlone 8 b && constantsAlone 8 c))) = true) : swappedStores [.Tuple [.Name x px, .Name y py, .Name z pz] kt pt] (.Tuple [a, b, c] k2 pt2) env = pure (some [x, y, z]) := by
  have hb : env.blockKind = .function := by unfold Env.blockKind; rw [hk]; rfl
  have kx : env.kindOf x = some .local := hx
  have ky : env.kindOf y = some .local := hy
  have kz : env.kindOf z = some .local := hz
  simp only [Bool.and_eq_true, Bool.not_eq_true'] at h
  obtain ⟨⟨⟨⟨h1, h2⟩, h0⟩, h3⟩, h4⟩ := h
  unfold swappedStores
  simp only
  rw [if_neg (by rw [hb]; exact Bool.false_ne_true)]
  split
  · rename_i q
    have q' : ((isStar a) || (isStar b || (isStar c || false))) = true := q
    rw [h1, h2, h0] at q'
    exact absurd q' (by decide)
  generalize hL : List.filterMap _ [Expr.Name x px, Expr.Name y py, Expr.Name z pz] = L
  have e2 : L = [x, y, z] := by
    rw [← hL]
    simp [kx, ky, kz, Expr.pos, eq_of_beq hl, eq_of_beq hl2]
  subst e2
  have e3 : [x, y, z].eraseDups = [x, y, z] := by
    have f : ∀ {p q : Str}, p ≠ q → (q == p) = false := fun {p q} hpq => by
      cases w : q == p with
      | false => rfl
      | true => exact absurd (eq_of_beq w).symm hpq
    simp [List.eraseDups_cons, List.filter, f hn, f hn2, f hn3]
  rw [e3]
  rw [if_neg (by simp)]
  rw [if_neg (by simp [h3])]
  rw [if_neg (by simp [h4])]
theorem fm_le {α β : Type} (f : α → Option β) : ∀ l : List α, (l.filterMap f).length ≤ l.length
  | [] => Nat.le_refl _
  | a :: l => by
    rw [List.filterMap_cons]
    split
    · exact Nat.le_succ_of_le (fm_le f l)
    · exact Nat.succ_le_succ (fm_le f l)
theorem fm_lt {α β : Type} {f : α → Option β} {p : α → Bool} (h : ∀ a, p a = true → f a = none) : ∀ {l : List α}, l.any p = true → (l.filterMap f).length < l.length
  | [], e => nomatch e
  | a :: l, e => by
    rw [List.filterMap_cons]
    cases q : f a with
    | none => exact Nat.lt_succ_of_le (fm_le f l)
    | some b =>
      simp only [List.any_cons, Bool.or_eq_true] at e
      rcases e with e | e
      · rw [h a e] at q; cases q
      · exact Nat.succ_lt_succ (fm_lt h e)
/-- a name that is no plain local one -/
def notLoc (sc : Scope) : Expr → Bool
  | .Name x _ => !decide (sc.names.lookup x = some .local)
  | _ => false
theorem swapped_cell {es vs : List Expr} {k k2 : Nat} {p p2 : Pos} {sc : Scope} (h : es.any (notLoc sc) = true) (env : Env) (he : env.scope = sc) : swappedStores [.Tuple es k p] (.Tuple vs k2 p2) env = pure none := by
  unfold swappedStores
  simp only
  split
  · rfl
  · split
    · rfl
    · rename_i h1 h2
      rw [if_pos]
      have z := fm_lt (f := fun e : Expr => match e with
        | .Name id pos => if (env.kindOf id == some NameKind.local && pos.line == (Option.map (fun x : Expr => x.pos.line) es.head?).getD 0) = true then some id else none
        | _ => none) (p := notLoc sc) (fun e he2 => by
          cases e with
          | Name x q =>
            simp only [notLoc, Bool.not_eq_true', decide_eq_false_iff_not] at he2
            have e1 : (env.kindOf x == some NameKind.local) = false := by
              have : env.kindOf x ≠ some .local := by
                show env.scope.names.lookup x ≠ _
                rw [he]; exact he2
              simpa using this
            simp [e1]
          | _ => first | rfl | (simp [notLoc] at he2)) h
      simp only [Bool.or_eq_true, bne_iff_ne]
      exact .inl (Nat.ne_of_lt z)
end Pv
set_option Elab.async false
set_option maxRecDepth 100000
set_option linter.unusedVariables false
/-! Pv12: statements' relation; soundness; the check. -/
namespace Pv
open PySem PySem.Spec PyProof.Rows L2
def appBase : Expr → Bool
  | .Call (.Name _ _) [] [] _ => false
  | _ => true
mutual
inductive TrS (g : Stat) (N : List Str) (sc : Scope) : Stmt → Sm → Prop
  | set {x p e pos i e'} (h : N[i]? = some x) (l : Loc sc x) (he : TrE g N sc e e') (hs : notComp e = true) : TrS g N sc (.Assign [.Name x p] e pos) (.set i e')
  | setLc {y py scope tg it e cs p pos i it' e' cs' t} (own : List (Str × Nat)) (hy : N[i]? = some y) (hyl : sc.names.lookup y = some .local) (hk : sc.kind = .function) (hl : (py.line == p.line) = true)
    (hsa : (scope.names.any fun (n, k) => n == y && (k == .local || k == .cell)) = false)
    (hb : blkC N sc scope own = true) (ht : TrT N (relS scope sc) scope tg t) (hi : TrI g N sc tg it it') (he : TrE g N (relS scope sc) e e') (hc : TrEs g N (relS scope sc) cs cs') (h1 : cs.length ≤ 1) (hin : (slotsOf t).all (fun i => decide (i ∈ own.map (·.2))) = true) :
    TrS g N sc (.Assign [.Name y py] (.ListComp e [⟨tg, it, cs, 0⟩] scope p) pos) (.set i (.lc t (own.map (·.2)) it' e' cs'))
  | setLcO {y py scope tg it e cs p pos i it' e' cs' t} (own : List (Str × Nat)) (hy : N[i]? = some y) (hyl : sc.names.lookup y = some .local) (hk : sc.kind = .function) (hl : (py.line == p.line) = true)
    (hsa : (scope.names.any fun (n, k) => n == y && (k == .local || k == .cell)) = false)
    (hb : blkC N sc scope own = true) (ht : TrT N (relS scope sc) scope tg t) (hi : TrI g N sc tg it it') (he : TrE g N (relS scope sc) e e') (hc : TrEs g N (relS scope sc) cs cs') (h1 : cs.length ≤ 1) (hin : (slotsOf t).all (fun i => decide (i ∈ own.map (·.2))) = true) :
    TrS g N sc (.Assign [.Name y py] (.ListComp e [⟨tg, it, cs, 0⟩] scope p) pos) (.set i (.own (.lc t (own.map (·.2)) it' e' cs')))
  | par {x y a b a' b' px py pt kt k2 pt2 pos i j} (hi : N[i]? = some x) (hj : N[j]? = some y) (hij : i ≠ j) (hk : sc.kind = .function) (hx : sc.names.lookup x = some .local) (hy : sc.names.lookup y = some .local) (hl : (py.line == px.line) = true) (hn : x ≠ y) (ha : TrE g N sc a a') (hb : TrE g N sc b b')
    (h : (!isStar a && !isStar b && !(foldedForSure 8 a && foldedForSure 8 b) && !(constantsAlone 8 a && constantsAlone 8 b)) = true) : TrS g N sc (.Assign [.Tuple [.Name x px, .Name y py] kt pt] (.Tuple [a, b] k2 pt2) pos) (.par i j a' b')
  | par3 {x y z a b c a' b' c' px py pz pt kt k2 pt2 pos i j l} (hi : N[i]? = some x) (hj : N[j]? = some y) (hl : N[l]? = some z) (hij : i ≠ j) (hil : i ≠ l) (hjl : j ≠ l) (hk : sc.kind = .function) (hx : sc.names.lookup x = some .local) (hy : sc.names.lookup y = some .local) (hz : sc.names.lookup z = some .local)
    (l1 : (py.line == px.line) = true) (l2 : (pz.line == px.line) = true) (hn : x ≠ y) (hn2 : x ≠ z) (hn3 : y ≠ z) (ha : TrE g N sc a a') (hb : TrE g N sc b b') (hc : TrE g N sc c c')
    (h : (!isStar a && !isStar b && !isStar c && !(foldedForSure 8 a && (foldedForSure 8 b && foldedForSure 8 c)) && !(constantsAlone 8 a && (constantsAlone 8 b && constantsAlone 8 c))) = true) : TrS g N sc (.Assign [.Tuple [.Name x px, .Name y py, .Name z pz] kt pt] (.Tuple [a, b, c] k2 pt2) pos) (.par3 i j l a' b' c')
  | unp {es k p e e' is pos} (ht : TrTs N sc sc es is) (he : TrE g N sc e e') (hw : ∀ env : Env, env.scope = sc → swappedStores [.Tuple es k p] e env = pure none) : TrS g N sc (.Assign [.Tuple es k p] e pos) (.unp is e')
  | six {o i e o' i' e' p pos} (ho : TrE g N sc o o') (hi : TrE g N sc i i') (he : TrE g N sc e e') : TrS g N sc (.Assign [.Subscript o i p] e pos) (.six o' i' e')
  | ret {e e' pos} (he : TrE g N sc e e') : TrS g N sc (.Return (some e) pos) (.ret e')
  | retN {pos} : TrS g N sc (.Return none pos) .retN
  | ife {t t' a a' b b' pos} (ht : TrE g N sc t t') (ha : TrSs g N sc a a') (hb : TrSs g N sc b b') : TrS g N sc (.If t a b pos) (.ife t' a' b')
  | whl {t t' b b' pos} (ht : TrE g N sc t t') (hb : TrSs g N sc b b') : TrS g N sc (.While t b [] pos) (.whl t' b')
  | for_ {tg it t it' b b' pos} (ht : TrT N sc sc tg t) (hi : TrI g N sc tg it it') (hb : TrSs g N sc b b') : TrS g N sc (.For tg it b [] pos) (.for_ t it' b')
  | forL {tg it t it' b b' pos} (ht : TrT N sc sc tg t) (hi : TrE g N sc it it') (hb : TrSs g N sc b b') : TrS g N sc (.For tg it b [] pos) (.forL t it' b')
  | tryS {i j n x y nm cx e e' k p1 p2 p3 p4 p5 np pos' pos} (hx : N[i]? = some x) (hxl : Loc sc x) (hy : N[j]? = some y) (hyl : Loc sc y) (hn : N[n]? = some nm) (hnl : sc.names.lookup nm = some .local) (hj : j ≠ n)
    (hc : Gb sc cx) (hk : g.cn cx = some k) (dc : (cx == ("__debug__" : Str)) = false) (d1 : (nm == ("__debug__" : Str)) = false) (d2 : (nm == ("__classdict__" : Str)) = false) (he : TrE g N sc e e') (sw : notComp e = true) :
    TrS g N sc (.Try [.Assign [.Name x p1] e p2] [.ExceptHandler (some (.Name cx np)) (some nm) [.Assign [.Name y p3] (.Name nm p4) p5] pos'] [] [] pos) (.tryS i e' (g.sb k) n j)
  | tryR {i n nm cx s0 e e' k p3 p4 p5 p6 np pos' pos kt j5} (h0 : (∃ j x p1 p2, i = some j ∧ N[j]? = some x ∧ Loc sc x ∧ s0 = .Assign [.Name x p1] e p2 ∧ notComp e = true) ∨ (i = none ∧ ∃ p2, s0 = .Return (some e) p2)) (hn : N[n]? = some nm) (hnl : sc.names.lookup nm = some .local)
    (hc : Gb sc cx) (hk : g.cn cx = some k) (dc : (cx == ("__debug__" : Str)) = false) (d1 : (nm == ("__debug__" : Str)) = false) (d2 : (nm == ("__classdict__" : Str)) = false) (he : TrE g N sc e e') :
    TrS g N sc (.Try [s0] [.ExceptHandler (some (.Name cx np)) (some nm) [.Return (some (.Tuple [.Name nm p3, .Constant .none j5 p4] kt p5)) p6] pos'] [] [] pos) (.tryR i e' (g.sb k) n)
  | nev {s} : TrS g N sc s .nev
  | expr {e e' pos} (he : TrE g N sc e e') (hs : notComp e = true) : TrS g N sc (.Expr e pos) (.expr e')
  | doc {x j pos' pos} : TrS g N sc (.Expr (.Constant (.str x) j pos') pos) .pass
  | app {o e o' e' apos cpos pos} (ho : TrE g N sc o o') (he : TrE g N sc e e') (hline : (apos.endLine == cpos.line) = true) (hn : appBase o = true) : TrS g N sc (.Expr (.Call (.Attribute o "append" apos) [e] [] cpos) pos) (.app o' e')
  | pass {pos} : TrS g N sc (.Pass pos) .pass
  | brk {pos} : TrS g N sc (.Break pos) .brk
  | cont {pos} : TrS g N sc (.Continue pos) .cont
  | raise {e k e' x p p2 pos} (hx : Gb sc x) (hk : g.cn x = some k) (d1 : (x == ("__debug__" : Str)) = false) (he : TrE g N sc e e') : TrS g N sc (.Raise (some (.Call (.Name x p) [e] [] p2)) none pos) (.raise k e')
inductive TrSs (g : Stat) (N : List Str) (sc : Scope) : List Stmt → Ss → Prop
  | nil : TrSs g N sc [] .nil
  | cons {s r s' r'} (h : TrS g N sc s s') (hr : TrSs g N sc r r') : TrSs g N sc (s :: r) (.cons s' r')
end
section
variable {g : Stat} {N : List Str} {sc : Scope} {d : Nat} {c : Cfg}
theorem sole_sub {e o i : Expr} {p : Pos} {l : Nat} (env : Env) : swapsWithSole [.Subscript o i p] e l env = pure false := swaps_sub o i p l env
theorem sole_tup {e : Expr} {es : List Expr} {k : Nat} {p : Pos} {l : Nat} (env : Env) : swapsWithSole [.Tuple es k p] e l env = pure false := swaps_tup es k p l env
theorem tryR_0 {i : Option Nat} {e : Expr} {s0 : Stmt} (h0 : (∃ j x p1 p2, i = some j ∧ N[j]? = some x ∧ Loc sc x ∧ s0 = .Assign [.Name x p1] e p2 ∧ notComp e = true) ∨ (i = none ∧ ∃ p2, s0 = .Return (some e) p2)) :
    ∃ x p1 p2, (∃ j, i = some j ∧ N[j]? = some x ∧ Loc sc x ∧ s0 = .Assign [.Name x p1] e p2 ∧ ∀ env, swapsWith e (some (.Name x p1)) p2.line env = pure false) ∨ (i = none ∧ s0 = .Return (some e) p2) := by
  rcases h0 with ⟨j, x, p1, p2, h1, h2, h3, h4, h5⟩ | ⟨h1, p2, h2⟩
  · exact ⟨x, p1, p2, .inl ⟨j, h1, h2, h3, h4, fun _ => swaps_no h5 _ _ _⟩⟩
  · exact ⟨"", p2, p2, .inr ⟨h1, h2⟩⟩
theorem app_base {e : Expr} {e' : Ex} (h : TrE g N sc e e') (hn : appBase e = true) (env : Env) (whole : Sem Value) : attributeBase e "append" env whole = whole := by
  cases e with
  | Call f as ks p =>
    cases f <;> first | rfl | (cases as <;> first | rfl | (cases ks <;> first | rfl | (simp [appBase] at hn)))
  | _ => first | rfl | (cases h)
theorem six_assign {o i : Expr} {i' : Ex} {tpos : Pos} (h : TrE g N sc i i') (env : Env) (v : Value) : assign (.Subscript o i tpos) env v = (do
      let ov ← holding [v] (eval o env)
      let iv ← holding [v, ov] (eval i env)
      standAt tpos
      holding [v, ov, iv] (setItem ov iv v)
      release [v, ov, iv] []) := by
  have hs := h.noSl
  cases i with
  | Slice a b c p =>
    cases h with
    | own _ _ hb => exact nomatch hb
  | _ => rfl
mutual
theorem TrS.snd : ∀ {s : Stmt} {i : Sm}, TrS g N sc s i → SS g N sc d c s i
  | _, _, .set h l he hs => ss_set h l he.snd.v fun _ => swaps_no hs _ _ _
  | _, _, .setLc own hy hyl hk hl hsa hb ht hi he hc h1 hin => ss_setLc own hy hyl hk hl hsa hb ht hi.sndi he.snd.v (hc.sndc h1) h1 hin hi.foldedI
  | _, _, .setLcO own hy hyl hk hl hsa hb ht hi he hc h1 hin => ss_setLcO own hy hyl hk hl hsa hb ht hi.sndi he.snd.v (hc.sndc h1) h1 hin hi.foldedI
  | _, _, .par hi hj hij hk hx hy hl hn ha hb h => ss_par hi hj hij hx hy ha.snd.v hb.snd.v ha.star hb.star fun env e => swapped_two (by rw [e]; exact hk) (by rw [e]; exact hx) (by rw [e]; exact hy) hl hn h
  | _, _, .par3 hi hj hl hij hil hjl hk hx hy hz l1 l2 hn hn2 hn3 ha hb hc h => ss_par3 hi hj hl hij hil hjl hx hy hz ha.snd.v hb.snd.v hc.snd.v ha.star hb.star hc.star fun env e => swapped_three (by rw [e]; exact hk) (by rw [e]; exact hx) (by rw [e]; exact hy) (by rw [e]; exact hz) l1 l2 hn hn2 hn3 h
  | _, _, .unp ht he hw => ss_unp (.t ht) he.snd.v (fun env => sole_tup env) hw fun _ => rfl
  | _, _, .six ho hi he => ss_six ho.snd.v hi.snd.v he.snd.v (six_assign hi) (fun env => sole_sub env) (fun env => swapped_sub _ _ _ _) fun _ => rfl
  | _, _, .ret he => ss_ret he.snd.v
  | _, _, .retN => ss_retN
  | _, _, .ife ht ha hb => ss_ife ht.snd.t ha.snds hb.snds
  | _, _, .whl ht hb => ss_whl ht.snd.t hb.snds
  | _, _, .for_ ht hi hb => ss_for ht hi.sndi hb.snds hi.foldedI
  | _, _, .forL ht hi hb => ss_forL ht hi.snd.v hb.snds hi.folded
  | _, _, .tryS hx hxl hy hyl hn hnl hj hc hk dc d1 d2 he sw => ss_tryS hx hxl hy hyl hn hnl hj hc hk dc d1 d2 he.snd.v (fun _ => swaps_no sw _ _ _) (fun _ => rfl)
  | _, _, .tryR h0 hn hnl hc hk dc d1 d2 he => by
    obtain ⟨x, p1, p2, h⟩ := tryR_0 h0
    exact ss_tryR h hn hnl hc hk dc d1 d2 he.snd.v
  | _, _, .nev => ss_nev
  | _, _, .expr he hs => ss_expr he.snd.v fun _ => swaps_no hs _ _ _
  | _, _, .doc => ss_doc
  | _, _, .app ho he hline hn => ss_app ho.snd.v he.snd.v he.star (fun env whole => app_base ho hn env whole) hline
  | _, _, .pass => ss_pass
  | _, _, .brk => ss_brk
  | _, _, .cont => ss_cont
  | _, _, .raise hx hk d1 he => ss_raise hx hk d1 he.snd.v he.star
theorem TrSs.snds : ∀ {s : List Stmt} {i : Ss}, TrSs g N sc s i → SSs g N sc d c s i
  | _, _, .nil => ss_nil
  | _, _, .cons h hr => ss_cons h.snd hr.snds
end
end
end Pv
set_option Elab.async false
set_option maxRecDepth 100000
set_option linter.unusedVariables false
/-! Pv13: the check of a text against its expression. -/
namespace Pv
open PySem PySem.Spec PyProof.Rows L2
mutual
def eqD : PyData → PyData → Bool
  | .none, .none => true
  | .bool a, .bool b => a == b
  | .int a, .int b => decide (a = b)
  | .str a, .str b => decide (a = b)
  | .list a, .list b => eqDs a b
  | .tuple a, .tuple b => eqDs a b
  | _, _ => false
def eqDs : List PyData → List PyData → Bool
  | [], [] => true
  | a :: r, b :: s => eqD a b && eqDs r s
  | _, _ => false
end
mutual
theorem eqD_eq : ∀ {a b : PyData}, eqD a b = true → a = b
  | .none, b, h => by cases b <;> simp_all [eqD]
  | .bool _, b, h => by cases b <;> simp_all [eqD]
  | .int _, b, h => by cases b <;> simp_all [eqD]
  | .str _, b, h => by cases b <;> simp_all [eqD]
  | .list xs, b, h => by
    cases b with
    | list ys => rw [eqDs_eq (a := xs) (b := ys) (by simpa [eqD] using h)]
    | _ => simp [eqD] at h
  | .tuple xs, b, h => by
    cases b with
    | tuple ys => rw [eqDs_eq (a := xs) (b := ys) (by simpa [eqD] using h)]
    | _ => simp [eqD] at h
  | .dict _, b, h => by cases b <;> simp_all [eqD]
theorem eqDs_eq : ∀ {a b : List PyData}, eqDs a b = true → a = b
  | [], b, h => by cases b <;> simp_all [eqDs]
  | x :: xs, b, h => by
    cases b with
    | nil => simp [eqDs] at h
    | cons y ys =>
      simp only [eqDs, Bool.and_eq_true] at h
      rw [eqD_eq h.1, eqDs_eq h.2]
end
/-! the same simple text -/
mutual
def eqE : Expr → Expr → Bool
  | .Name x p, e => (match e with
    | .Name y q => decide (x = y) && decide (p = q)
    | _ => false)
  | .Constant a i p, e => (match e with
    | .Constant b j q => decide (a = b) && decide (i = j) && decide (p = q)
    | _ => false)
  | .Call f as ks p, e => (match e with
    | .Call g bs ls q => eqE f g && eqEs as bs && ks.isEmpty && ls.isEmpty && decide (p = q)
    | _ => false)
  | .Tuple as i p, e => (match e with
    | .Tuple bs j q => eqEs as bs && decide (i = j) && decide (p = q)
    | _ => false)
  | .List as p, e => (match e with
    | .List bs q => eqEs as bs && decide (p = q)
    | _ => false)
  | .UnaryOp o a p, e => (match e with
    | .UnaryOp o' b q => decide (o = o') && eqE a b && decide (p = q)
    | _ => false)
  | .BinOp a o b p, e => (match e with
    | .BinOp a' o' b' q => decide (o = o') && eqE a a' && eqE b b' && decide (p = q)
    | _ => false)
  | .Attribute a n p, e => (match e with
    | .Attribute b m q => decide (n = m) && eqE a b && decide (p = q)
    | _ => false)
  | .Subscript a b p, e => (match e with
    | .Subscript a' b' q => eqE a a' && eqE b b' && decide (p = q)
    | _ => false)
  | _, _ => false
def eqEs : List Expr → List Expr → Bool
  | [], bs => bs.isEmpty
  | a :: as, bs => (match bs with
    | b :: bs => eqE a b && eqEs as bs
    | [] => false)
end
mutual
theorem eqE_eq : ∀ {a b : Expr}, eqE a b = true → a = b
  | .Name x p, b, h => by
    simp only [eqE] at h
    split at h
    · simp only [Bool.and_eq_true, decide_eq_true_eq] at h
      obtain ⟨rfl, rfl⟩ := h; rfl
    · cases h
  | .Constant a i p, b, h => by
    simp only [eqE] at h
    split at h
    · simp only [Bool.and_eq_true, decide_eq_true_eq] at h
      obtain ⟨⟨rfl, rfl⟩, rfl⟩ := h; rfl
    · cases h
  | .Call f as ks p, b, h => by
    simp only [eqE] at h
    split at h
    · simp only [Bool.and_eq_true, decide_eq_true_eq, List.isEmpty_iff] at h
      obtain ⟨⟨⟨⟨h1, h2⟩, rfl⟩, rfl⟩, rfl⟩ := h
      rw [eqE_eq h1, eqEs_eq h2]
    · cases h
  | .Tuple as i p, b, h => by
    simp only [eqE] at h
    split at h
    · simp only [Bool.and_eq_true, decide_eq_true_eq] at h
      obtain ⟨⟨h1, rfl⟩, rfl⟩ := h
      rw [eqEs_eq h1]
    · cases h
  | .List as p, b, h => by
    simp only [eqE] at h
    split at h
    · simp only [Bool.and_eq_true, decide_eq_true_eq] at h
      obtain ⟨h1, rfl⟩ := h
      rw [eqEs_eq h1]
    · cases h
  | .UnaryOp o a p, b, h => by
    simp only [eqE] at h
    split at h
    · simp only [Bool.and_eq_true, decide_eq_true_eq] at h
      obtain ⟨⟨rfl, h1⟩, rfl⟩ := h
      rw [eqE_eq h1]
    · cases h
  | .BinOp a o c p, b, h => by
    simp only [eqE] at h
    split at h
    · simp only [Bool.and_eq_true, decide_eq_true_eq] at h
      obtain ⟨⟨⟨rfl, h1⟩, h2⟩, rfl⟩ := h
      rw [eqE_eq h1, eqE_eq h2]
    · cases h
  | .Attribute a n p, b, h => by
    simp only [eqE] at h
    split at h
    · simp only [Bool.and_eq_true, decide_eq_true_eq] at h
      obtain ⟨⟨rfl, h1⟩, rfl⟩ := h
      rw [eqE_eq h1]
    · cases h
  | .Subscript a c p, b, h => by
    simp only [eqE] at h
    split at h
    · simp only [Bool.and_eq_true, decide_eq_true_eq] at h
      obtain ⟨⟨h1, h2⟩, rfl⟩ := h
      rw [eqE_eq h1, eqE_eq h2]
    · cases h
  | .BoolOp _ _ _, _, h => by simp [eqE] at h
  | .NamedExpr _ _ _, _, h => by simp [eqE] at h
  | .Lambda _ _ _ _, _, h => by simp [eqE] at h
  | .IfExp _ _ _ _, _, h => by simp [eqE] at h
  | .Dict _ _ _, _, h => by simp [eqE] at h
  | .Set _ _ _, _, h => by simp [eqE] at h
  | .ListComp _ _ _ _, _, h => by simp [eqE] at h
  | .SetComp _ _ _ _, _, h => by simp [eqE] at h
  | .DictComp _ _ _ _ _, _, h => by simp [eqE] at h
  | .GeneratorExp _ _ _ _, _, h => by simp [eqE] at h
  | .Await _ _, _, h => by simp [eqE] at h
  | .Yield _ _, _, h => by simp [eqE] at h
  | .YieldFrom _ _, _, h => by simp [eqE] at h
  | .Compare _ _ _ _, _, h => by simp [eqE] at h
  | .FormattedValue _ _ _ _, _, h => by simp [eqE] at h
  | .JoinedStr _ _, _, h => by simp [eqE] at h
  | .Starred _ _, _, h => by simp [eqE] at h
  | .Slice _ _ _ _, _, h => by simp [eqE] at h
theorem eqEs_eq : ∀ {a b : List Expr}, eqEs a b = true → a = b
  | [], b, h => by
    simp only [eqEs, List.isEmpty_iff] at h
    exact h.symm
  | a :: as, b, h => by
    simp only [eqEs] at h
    split at h
    · simp only [Bool.and_eq_true] at h
      rw [eqE_eq h.1, eqEs_eq h.2]
    · cases h
end
def noArgs : Arguments → Bool
  | ⟨[], [], none, [], [], none, []⟩ => true
  | _ => false
theorem noArgs_eq {a : Arguments} (h : noArgs a = true) : a = ⟨[], [], none, [], [], none, []⟩ := by
  unfold noArgs at h
  split at h
  · rfl
  · cases h
def kB (sc : Scope) (x : Str) (k : NameKind) : Bool := decide (sc.names.lookup x = some k)
def visB (sc : Scope) (x : Str) : Bool := kB sc x .local || kB sc x .cell || kB sc x .free
def locB (sc : Scope) (x : Str) : Bool := kB sc x .local || kB sc x .cell
theorem visB_ok {sc : Scope} {x : Str} (h : visB sc x = true) : Vis sc x := by
  simp only [visB, kB, Bool.or_eq_true, decide_eq_true_eq] at h
  rcases h with (h | h) | h
  · exact .inl h
  · exact .inr (.inl h)
  · exact .inr (.inr h)
theorem locB_ok {sc : Scope} {x : Str} (h : locB sc x = true) : Loc sc x := by
  simp only [locB, kB, Bool.or_eq_true, decide_eq_true_eq] at h
  exact h
theorem gbB_ok {sc : Scope} {x : Str} (h : kB sc x .globalImplicit = true) : Gb sc x := by
  exact of_decide_eq_true (p := sc.names.lookup x = some .globalImplicit) h
def dbg (x : Str) : Bool := !(x == ("__debug__" : Str))
theorem dbg_ok {x : Str} (h : dbg x = true) : (x == ("__debug__" : Str)) = false := by simpa [dbg] using h
def strip : Expr → Expr
  | .BoolOp _ [a] _ => a
  | e => e
def chkTs (N : List Str) (sc scope : Scope) : List Nat → List Expr → Bool
  | [], [] => true
  | i :: is, e :: es => (match e with
    | .Name x _ => decide (N[i]? = some x) && locB sc x && (kB scope x .cell || kB sc x .local)
    | _ => false) && chkTs N sc scope is es
  | _, _ => false
def chkT (N : List Str) (sc scope : Scope) : Tg → Expr → Bool
  | .n i, e => (match e with
    | .Name x _ => decide (N[i]? = some x) && locB sc x && (kB scope x .cell || kB sc x .local)
    | _ => false)
  | .t is, e => (match e with
    | .Tuple es _ _ => chkTs N sc scope is es
    | _ => false)
def ownOf (N : List Str) (is : List Nat) : List (Str × Nat) := is.filterMap fun i => N[i]?.map fun x => (x, i)
def inB (x : Str) (l : List Str) : Bool := decide (x ∈ l)
def biGen (g : Stat) (sc : Scope) (f : Bi) (x : Str) (es : List Expr) : Bool := kB sc x .globalImplicit && !es.isEmpty && (match biK f with
  | .fn n _ => decide (x = n) && inB x g.bl
  | .ty n _ => decide (x = n) && inB x g.bl
  | .im n id => decide (x = n) && decide (g.im x = some id))
def biIs (g : Stat) (sc : Scope) (T : String) (x : Str) (es : List Expr) : Bool := match es with
  | [_, .Name y _] => decide (x = ("isinstance" : Str)) && decide (y = Str.ofString T) && inB "isinstance" g.bl && inB (Str.ofString T) g.bl && kB sc "isinstance" .globalImplicit && kB sc (Str.ofString T) .globalImplicit
  | _ => false
def biLr (g : Stat) (sc : Scope) (x : Str) (es : List Expr) : Bool := match es with
  | [.Call (.Name y _) [_] [] _] => decide (x = ("list" : Str)) && decide (y = ("range" : Str)) && inB "list" g.bl && inB "range" g.bl && kB sc "list" .globalImplicit && kB sc "range" .globalImplicit
  | _ => false
def biPre (g : Stat) (sc : Scope) (f : Bi) (x : Str) (es : List Expr) : Bool := match f with
  | .listRange => biLr g sc x es
  | .isInt => biIs g sc "int" x es
  | .isBool => biIs g sc "bool" x es
  | .isTup => biIs g sc "tuple" x es
  | f => biGen g sc f x es
def biArgs (f : Bi) (es : List Expr) : List Expr := match f with
  | .listRange => (match es with
    | [.Call _ [e1] [] _] => [e1]
    | _ => [])
  | .isInt => es.take 1
  | .isBool => es.take 1
  | .isTup => es.take 1
  | _ => es
def eqNs (a b : List Nat) : Bool := decide (a = b)
mutual
def chkE (g : Stat) (N : List Str) : Ex → Scope → Expr → Bool
  | .k x, sc, e => (match strip e with
    | .Constant (.int i) _ _ => eqD x (.int i)
    | .Constant (.bool i) _ _ => eqD x (.bool i)
    | .Constant (.str i) _ _ => eqD x (.str i)
    | .Constant .none _ _ => eqD x .none
    | .Name y _ => kB sc y .globalImplicit && dbg y && (match g.G y with
      | some dt => eqD x dt
      | none => false)
    | _ => false)
  | .v i, sc, e => (match strip e with
    | .Name x _ => decide (N[i]? = some x) && visB sc x && dbg x && !(x == ("__classdict__" : Str))
    | _ => false)
  | .bin o a b, sc, e => (match strip e with
    | .BinOp x op y _ => decide (op = opOf o) && chkE g N a sc x && chkE g N b sc y
    | _ => false)
  | .neg a, sc, e => (match strip e with
    | .UnaryOp .USub x _ => chkE g N a sc x
    | _ => false)
  | .not a, sc, e => (match strip e with
    | .UnaryOp .Not x _ => chkE g N a sc x
    | _ => false)
  | .cmp o a b, sc, e => (match strip e with
    | .Compare x [op] [y] _ => decide (op = copOf o) && chkE g N a sc x && chkE g N b sc y
    | _ => false)
  | .chain o o' a b d, sc, e => (match strip e with
    | .Compare x [op, op'] [y, z] _ => decide (op = copOf o) && decide (op' = copOf o') && chkE g N a sc x && chkE g N b sc y && chkE g N d sc z
    | _ => false)
  | .and a b, sc, e => (match strip e with
    | .BoolOp .And (x :: y :: r) p => chkE g N a sc x && chkE g N b sc (.BoolOp .And (y :: r) p)
    | _ => false)
  | .or a b, sc, e => (match strip e with
    | .BoolOp .Or (x :: y :: r) p => chkE g N a sc x && chkE g N b sc (.BoolOp .Or (y :: r) p)
    | _ => false)
  | .ite t a b, sc, e => (match strip e with
    | .IfExp x y z _ => chkE g N t sc x && chkE g N a sc y && chkE g N b sc z
    | _ => false)
  | .tup xs, sc, e => (match strip e with
    | .Tuple es _ _ => chkEs g N xs sc es && decide (es.length ≤ 1000)
    | _ => false)
  | .lst xs, sc, e => (match strip e with
    | .List es _ => chkEs g N xs sc es && decide (es.length ≤ 1000)
    | _ => false)
  | .lstM xs, sc, e => (match strip e with
    | .List es _ => chkEs g N xs sc es && decide (es.length ≤ 1000)
    | _ => false)
  | .call k xs, sc, e => (match strip e with
    | .Call (.Name x _) es [] _ => kB sc x .globalImplicit && decide (g.F x = some k) && dbg x && chkEs g N xs sc es
    | .Call (.Name x _) [] kws _ => kB sc x .globalImplicit && decide (g.F x = some k) && dbg x && g.kw k && decide (kws.map (·.arg) = (g.ps k).map some) && chkEs g N xs sc (kws.map (·.value))
    | _ => false)
  | .bi f xs, sc, e => (match strip e with
    | .Call (.Name x _) es [] _ => biPre g sc f x es && chkEs g N xs sc (biArgs f es)
    | _ => false)
  | .ix a b, sc, e => (match strip e with
    | .Subscript x y _ => chkE g N a sc x && chkE g N b sc y
    | _ => false)
  | .dix ks vs i, sc, e => (match strip e with
    | .Subscript (.Dict keys values _) j _ => decide (keys.map keyI = ks.map some) && decide ks.Nodup && decide (ks.length ≤ 15) && !keys.isEmpty && decide (keys.length = values.length) && chkEs g N vs sc values && chkE g N i sc j
    | _ => false)
  | .slice a lo hi, sc, e => (match strip e with
    | .Subscript x (.Slice l h none _) _ => chkE g N a sc x && chkEs g N lo sc l.toList && chkEs g N hi sc h.toList
    | _ => false)
  | .lc t is it e1 cs, sc, e => (match strip e with
    | .ListComp x [⟨tg, y, ifs, 0⟩] scope _ => decide ((ownOf N is).map (·.2) = is) && blkC N sc scope (ownOf N is) && chkT N (relS scope sc) scope t tg && chkI g N it sc tg y && chkE g N e1 (relS scope sc) x && chkEs g N cs (relS scope sc) ifs && decide (ifs.length ≤ 1) && (slotsOf t).all (fun i => decide (i ∈ is))
    | _ => false)
  | .own a, sc, e => chkE g N a sc e && isFr a && isFrE e
  | .repF a n, sc, e => (match strip e with
    | .BinOp x op y _ => decide (op = .Mult) && chkE g N a sc x && isFr a && chkE g N n sc y
    | _ => false)
  | .catF a b, sc, e => (match strip e with
    | .BinOp x op y _ => decide (op = .Add) && chkE g N a sc x && chkE g N b sc y && isFr b
    | _ => false)
  | .lstA xs, sc, e => (match strip e with
    | .List es _ => chkEs g N xs sc es && decide (es.length ≤ 1000)
    | _ => false)
  | .rev a, sc, e => (match strip e with
    | .Subscript x (.Slice none none (some (.UnaryOp .USub (.Constant (.int i) _ _) _)) _) _ => decide (i = 1) && chkE g N a sc x
    | _ => false)
  | .mk k t j, sc, e => (match strip e with
    | .Lambda params body scope _ => (match g.lm k with
      | some L => decide (L.own = j) && noArgs params && noArgs L.params && eqE L.body body && decide (L.scope = scope) && LamX.lamSB sc scope
      | none => false)
    | _ => false)
  | .callv a, sc, e => (match a with
    | .v i => (match strip e with
      | .Call (.Name x _) [] [] _ => decide (N[i]? = some x) && visB sc x && dbg x && !(x == ("__classdict__" : Str))
      | _ => false)
    | _ => false)
  | .exv a, sc, e => (match strip e with
    | .Attribute x n _ => decide (n = ("value" : Str)) && chkE g N a sc x && isNm x
    | _ => false)
  | .isC a cs, sc, e => (match strip e with
    | .Call (.Name f _) [x, .Name y _] [] _ => decide (f = ("isinstance" : Str)) && inB "isinstance" g.bl && kB sc "isinstance" .globalImplicit && kB sc y .globalImplicit && dbg y && (match g.cn y with
      | some k => eqNs cs (g.sb k)
      | none => false) && chkE g N a sc x
    | _ => false)
  | .isV a, sc, e => (match strip e with
    | .Call (.Name f _) [x, .Name y _] [] _ => decide (f = ("isinstance" : Str)) && decide (y = ("ValueError" : Str)) && inB "isinstance" g.bl && inB "ValueError" g.bl && kB sc "isinstance" .globalImplicit && kB sc "ValueError" .globalImplicit && chkE g N a sc x
    | _ => false)
def chkI (g : Stat) (N : List Str) : Itr → Scope → Expr → Expr → Bool
  | .e a, sc, _, e => chkE g N a sc e
  | .rng xs, sc, _, e => (match e with
    | .Call (.Name r _) (e0 :: es) [] _ => decide (r = ("range" : Str)) && inB "range" g.bl && kB sc "range" .globalImplicit && decide (es.length ≤ 2) && chkEs g N xs sc (e0 :: es)
    | _ => false)
  | .zip a b, sc, tg, e => (match tg, e with
    | .Tuple _ _ _, .Call (.Name r _) [x, y] [] _ => decide (r = ("zip" : Str)) && inB "zip" g.bl && kB sc "zip" .globalImplicit && chkE g N a sc x && chkE g N b sc y
    | _, _ => false)
  | .enum a, sc, tg, e => (match tg, e with
    | .Tuple _ _ _, .Call (.Name r _) [x] [] _ => decide (r = ("enumerate" : Str)) && inB "enumerate" g.bl && kB sc "enumerate" .globalImplicit && chkE g N a sc x
    | _, _ => false)
def chkEs (g : Stat) (N : List Str) : Exs → Scope → List Expr → Bool
  | .nil, sc, es => es.isEmpty
  | .cons a r, sc, es => (match es with
    | e :: es => chkE g N a sc e && chkEs g N r sc es
    | [] => false)
end
theorem TrE.unstrip {g : Stat} {N : List Str} {sc : Scope} {e : Expr} {i : Ex} (h : TrE g N sc (strip e) i) : TrE g N sc e i := by
  unfold strip at h
  split at h
  · exact .one h
  · exact h
theorem chkTs_ok {N : List Str} {sc scope : Scope} : ∀ {is : List Nat} {es : List Expr}, chkTs N sc scope is es = true → TrTs N sc scope es is
  | [], [], _ => .nil
  | [], _ :: _, h => by simp [chkTs] at h
  | _ :: _, [], h => by simp [chkTs] at h
  | i :: is, e :: es, h => by
    simp only [chkTs] at h
    split at h
    · simp only [Bool.and_eq_true, Bool.or_eq_true, kB, decide_eq_true_eq] at h
      exact .cons h.1.1.1 (locB_ok h.1.1.2) h.1.2 (chkTs_ok h.2)
    · simp at h
theorem chkT_ok {N : List Str} {sc scope : Scope} {t : Tg} {e : Expr} (h : chkT N sc scope t e = true) : TrT N sc scope e t := by
  cases t with
  | n i =>
    simp only [chkT] at h
    split at h
    · simp only [Bool.and_eq_true, Bool.or_eq_true, kB, decide_eq_true_eq] at h
      exact .n h.1.1 (locB_ok h.1.2) h.2
    · cases h
  | t is =>
    simp only [chkT] at h
    split at h
    · exact .t (chkTs_ok h)
    · cases h
theorem inB_ok {x : Str} {l : List Str} (h : inB x l = true) : x ∈ l := of_decide_eq_true h
theorem chkKs_ok {g : Stat} {N : List Str} {sc : Scope} : ∀ {xs : Exs} {ks : List Keyword} {ns : List Str}, ks.map (·.arg) = ns.map some → TrEs g N sc (ks.map (·.value)) xs → TrKs g N sc ks ns xs
  | _, [], [], _, h => by cases h; exact .nil
  | _, [], _ :: _, e, _ => by simp at e
  | _, _ :: _, [], e, _ => by simp at e
  | _, ⟨a, v, p⟩ :: ks, n :: ns, e, h => by
    simp only [List.map_cons, List.cons.injEq] at e
    cases h with
    | cons h r =>
      obtain ⟨rfl, e2⟩ := e
      exact .cons h (chkKs_ok e2 r)
theorem chkO_ok {g : Stat} {N : List Str} {sc : Scope} {xs : Exs} {o : Option Expr} (h : TrEs g N sc o.toList xs) : TrO g N sc o xs := by
  cases o with
  | none => cases h; exact .non
  | some e =>
    cases h with
    | cons h r => cases r; exact .some h
end Pv
set_option Elab.async false
set_option maxRecDepth 100000
set_option linter.unusedVariables false
/-! Pv14: the check is right. -/
namespace Pv
open PySem PySem.Spec PyProof.Rows L2
theorem biFn_boot {f : Bi} {n : Str} {id : String} (h : biK f = .fn n id) : bootBuiltins n = some (.builtin id) ∧ (n == ("__debug__" : Str)) = false ∧ n ≠ "__name__" := by
  cases f <;> simp only [biK, BK.fn.injEq, reduceCtorEq] at h <;> (obtain ⟨rfl, rfl⟩ := h; exact ⟨by rfl, by decide +kernel, by decide +kernel⟩)
theorem biTy_boot {f : Bi} {n : Str} {id : String} (h : biK f = .ty n id) : bootBuiltins n = some (.type id) ∧ (n == ("__debug__" : Str)) = false ∧ n ≠ "__name__" := by
  cases f <;> simp only [biK, BK.ty.injEq, reduceCtorEq] at h <;> (obtain ⟨rfl, rfl⟩ := h; exact ⟨by rfl, by decide +kernel, by decide +kernel⟩)
theorem biIm_boot {f : Bi} {n : Str} {id : String} (h : biK f = .im n id) : (n == ("__debug__" : Str)) = false := by
  cases f <;> simp only [biK, BK.im.injEq, reduceCtorEq] at h <;> (obtain ⟨rfl, rfl⟩ := h; decide +kernel)
theorem biX_boot {f : Bi} {T : String} (h : biX f = [.ty T]) : biK f = .fn "isinstance" "isinstance" ∧ bootBuiltins (Str.ofString T) = some (.type T) ∧ (Str.ofString T == ("__debug__" : Str)) = false ∧ Str.ofString T ≠ "__name__" := by
  cases f <;> simp only [biX, List.cons.injEq, V.ty.injEq, and_true, reduceCtorEq] at h <;> (subst h; exact ⟨rfl, by rfl, by decide +kernel, by decide +kernel⟩)
section
variable {g : Stat} {N : List Str}
theorem biGen_ok {sc : Scope} {f : Bi} {x : Str} {p pos : Pos} {es : List Expr} {xs : Exs} (hf : f ≠ .listRange) (hX : biX f = []) (h : biGen g sc f x es = true) (e4 : TrEs g N sc es xs) : TrE g N sc (.Call (.Name x p) es [] pos) (.bi f xs) := by
  simp only [biGen, Bool.and_eq_true] at h
  obtain ⟨⟨h1, h2⟩, h3⟩ := h
  cases es with
  | nil => simp at h2
  | cons e1 es =>
    split at h3
    · rename_i n id hk
      simp only [Bool.and_eq_true, decide_eq_true_eq] at h3
      obtain ⟨rfl, h5⟩ := h3
      obtain ⟨b1, b2, b3⟩ := biFn_boot hk
      exact .biF f hk hX b1 (inB_ok h5) (gbB_ok h1) b2 b3 e4
    · rename_i n id hk
      simp only [Bool.and_eq_true, decide_eq_true_eq] at h3
      obtain ⟨rfl, h5⟩ := h3
      obtain ⟨b1, b2, b3⟩ := biTy_boot hk
      exact .biT f hk hf b1 (inB_ok h5) (gbB_ok h1) b2 b3 e4
    · rename_i n id hk
      simp only [Bool.and_eq_true, decide_eq_true_eq] at h3
      obtain ⟨rfl, h5⟩ := h3
      exact .biI f hk h5 (gbB_ok h1) (biIm_boot hk) e4
theorem biIs_ok {sc : Scope} {f : Bi} {T : String} {x : Str} {p pos : Pos} {es : List Expr} {xs : Exs} (hX : biX f = [.ty T]) (h : biIs g sc T x es = true) (e4 : TrEs g N sc (es.take 1) xs) : TrE g N sc (.Call (.Name x p) es [] pos) (.bi f xs) := by
  unfold biIs at h
  split at h
  · simp only [Bool.and_eq_true, decide_eq_true_eq] at h
    obtain ⟨⟨⟨⟨⟨rfl, rfl⟩, h3⟩, h4⟩, h5⟩, h6⟩ := h
    obtain ⟨b1, b2, b3, b4⟩ := biX_boot hX
    cases e4 with
    | cons a r =>
      cases r
      exact .isi f b1 hX b2 (inB_ok h3) (inB_ok h4) (gbB_ok h5) (gbB_ok h6) b3 b4 a
  · cases h
theorem biPre_ok {sc : Scope} {f : Bi} {x : Str} {p pos : Pos} {es : List Expr} {xs : Exs} (h : biPre g sc f x es = true) (e4 : TrEs g N sc (biArgs f es) xs) : TrE g N sc (.Call (.Name x p) es [] pos) (.bi f xs) := by
  cases f with
  | listRange =>
    have h : biLr g sc x es = true := h
    unfold biLr at h
    split at h
    · simp only [Bool.and_eq_true, decide_eq_true_eq] at h
      obtain ⟨⟨⟨⟨⟨rfl, rfl⟩, h3⟩, h4⟩, h5⟩, h6⟩ := h
      have e5 : TrEs g N sc [_] xs := e4
      cases e5 with
      | cons a r =>
        cases r
        exact .lrange (inB_ok h3) (inB_ok h4) (gbB_ok h5) (gbB_ok h6) a
    · cases h
  | isInt => exact biIs_ok rfl h e4
  | isBool => exact biIs_ok rfl h e4
  | isTup => exact biIs_ok rfl h e4
  | _ => exact biGen_ok (by intro z; cases z) rfl h e4
mutual
theorem chkE_ok : ∀ (i : Ex) {sc : Scope} {e : Expr}, chkE g N i sc e = true → TrE g N sc e i
  | .k x, sc, e, h => by
    simp only [chkE] at h
    refine TrE.unstrip ?_
    split at h
    · rename_i w; rw [w, eqD_eq h]; exact .int
    · rename_i w; rw [w, eqD_eq h]; exact .bool
    · rename_i w; rw [w, eqD_eq h]; exact .str
    · rename_i w; rw [w, eqD_eq h]; exact .non
    · rename_i w
      rw [w]
      simp only [Bool.and_eq_true] at h
      obtain ⟨⟨h1, h2⟩, h3⟩ := h
      split at h3
      · rename_i dt q
        rw [eqD_eq h3]
        exact .glob (gbB_ok h1) q (dbg_ok h2)
      · cases h3
    · cases h
  | .v i, sc, e, h => by
    simp only [chkE] at h
    refine TrE.unstrip ?_
    split at h
    · rename_i w; rw [w]
      simp only [Bool.and_eq_true, decide_eq_true_eq, Bool.not_eq_true'] at h
      exact .var h.1.1.1 (visB_ok h.1.1.2) (dbg_ok h.1.2) h.2
    · cases h
  | .bin o a b, sc, e, h => by
    simp only [chkE] at h
    refine TrE.unstrip ?_
    split at h
    · rename_i w; rw [w]
      simp only [Bool.and_eq_true, decide_eq_true_eq] at h
      obtain ⟨⟨rfl, h2⟩, h3⟩ := h
      exact .bin o (chkE_ok a h2) (chkE_ok b h3)
    · cases h
  | .neg a, sc, e, h => by
    simp only [chkE] at h
    refine TrE.unstrip ?_
    split at h
    · rename_i w; rw [w]; exact .neg (chkE_ok a h)
    · cases h
  | .not a, sc, e, h => by
    simp only [chkE] at h
    refine TrE.unstrip ?_
    split at h
    · rename_i w; rw [w]; exact .not (chkE_ok a h)
    · cases h
  | .cmp o a b, sc, e, h => by
    simp only [chkE] at h
    refine TrE.unstrip ?_
    split at h
    · rename_i w; rw [w]
      simp only [Bool.and_eq_true, decide_eq_true_eq] at h
      obtain ⟨⟨rfl, h2⟩, h3⟩ := h
      exact .cmp o (chkE_ok a h2) (chkE_ok b h3)
    · cases h
  | .chain o o' a b d, sc, e, h => by
    simp only [chkE] at h
    refine TrE.unstrip ?_
    split at h
    · rename_i w; rw [w]
      simp only [Bool.and_eq_true, decide_eq_true_eq] at h
      obtain ⟨⟨⟨⟨rfl, rfl⟩, h2⟩, h3⟩, h4⟩ := h
      exact .chain o o' (chkE_ok a h2) (chkE_ok b h3) (chkE_ok d h4)
    · cases h
  | .and a b, sc, e, h => by
    simp only [chkE] at h
    refine TrE.unstrip ?_
    split at h
    · rename_i w; rw [w]
      simp only [Bool.and_eq_true] at h
      exact .and (chkE_ok a h.1) (chkE_ok b h.2)
    · cases h
  | .or a b, sc, e, h => by
    simp only [chkE] at h
    refine TrE.unstrip ?_
    split at h
    · rename_i w; rw [w]
      simp only [Bool.and_eq_true] at h
      exact .or (chkE_ok a h.1) (chkE_ok b h.2)
    · cases h
  | .ite t a b, sc, e, h => by
    simp only [chkE] at h
    refine TrE.unstrip ?_
    split at h
    · rename_i w; rw [w]
      simp only [Bool.and_eq_true] at h
      exact .ite (chkE_ok t h.1.1) (chkE_ok a h.1.2) (chkE_ok b h.2)
    · cases h
  | .tup xs, sc, e, h => by
    simp only [chkE] at h
    refine TrE.unstrip ?_
    split at h
    · rename_i w; rw [w]
      simp only [Bool.and_eq_true, decide_eq_true_eq] at h
      exact .tup (chkEs_ok xs h.1) h.2
    · cases h
  | .lst xs, sc, e, h => by
    simp only [chkE] at h
    refine TrE.unstrip ?_
    split at h
    · rename_i w; rw [w]
      simp only [Bool.and_eq_true, decide_eq_true_eq] at h
      exact .lst (chkEs_ok xs h.1) h.2
    · cases h
  | .lstM xs, sc, e, h => by
    simp only [chkE] at h
    refine TrE.unstrip ?_
    split at h
    · rename_i w; rw [w]
      simp only [Bool.and_eq_true, decide_eq_true_eq] at h
      exact .lstM (chkEs_ok xs h.1) h.2
    · cases h
  | .call k xs, sc, e, h => by
    simp only [chkE] at h
    refine TrE.unstrip ?_
    split at h
    · rename_i x p es pos w; rw [w]
      simp only [Bool.and_eq_true, decide_eq_true_eq] at h
      obtain ⟨⟨⟨h1, h2⟩, h3⟩, h4⟩ := h
      cases es with
      | nil =>
        have e4 := chkEs_ok xs h4
        cases e4
        exact .call0 (gbB_ok h1) h2 (dbg_ok h3)
      | cons a r => exact .call (gbB_ok h1) h2 (dbg_ok h3) (chkEs_ok xs h4)
    · rename_i x p kws pos hne w; rw [w]
      simp only [Bool.and_eq_true, decide_eq_true_eq] at h
      obtain ⟨⟨⟨⟨⟨h1, h2⟩, h3⟩, h4⟩, h5⟩, h6⟩ := h
      cases kws with
      | nil =>
        have e4 := chkEs_ok xs h6
        simp only [List.map_nil] at e4
        cases e4
        exact .call0 (gbB_ok h1) h2 (dbg_ok h3)
      | cons q kws => exact .callK (gbB_ok h1) h2 h4 (dbg_ok h3) (chkKs_ok h5 (chkEs_ok xs h6))
    · cases h
  | .bi f xs, sc, e, h => by
    simp only [chkE] at h
    refine TrE.unstrip ?_
    split at h
    · rename_i w; rw [w]
      simp only [Bool.and_eq_true] at h
      exact biPre_ok h.1 (chkEs_ok xs h.2)
    · cases h
  | .ix a b, sc, e, h => by
    simp only [chkE] at h
    refine TrE.unstrip ?_
    split at h
    · rename_i w; rw [w]
      simp only [Bool.and_eq_true] at h
      exact .ix (chkE_ok a h.1) (chkE_ok b h.2)
    · cases h
  | .dix ks vs i, sc, e, h => by
    simp only [chkE] at h
    refine TrE.unstrip ?_
    split at h
    · rename_i w; rw [w]
      simp only [Bool.and_eq_true, decide_eq_true_eq, Bool.not_eq_true'] at h
      obtain ⟨⟨⟨⟨⟨⟨h1, h2⟩, h3⟩, h4⟩, h5⟩, h6⟩, h7⟩ := h
      exact .dix h1 h2 h3 (fun z => by rw [z] at h4; cases h4) h5 (chkEs_ok vs h6) (chkE_ok i h7)
    · cases h
  | .slice a lo hi, sc, e, h => by
    simp only [chkE] at h
    refine TrE.unstrip ?_
    split at h
    · rename_i w; rw [w]
      simp only [Bool.and_eq_true] at h
      exact .slice (chkE_ok a h.1.1) (chkO_ok (chkEs_ok lo h.1.2)) (chkO_ok (chkEs_ok hi h.2))
    · cases h
  | .lc t is it e1 cs, sc, e, h => by
    simp only [chkE] at h
    refine TrE.unstrip ?_
    split at h
    · rename_i w; rw [w]
      simp only [Bool.and_eq_true, decide_eq_true_eq] at h
      obtain ⟨⟨⟨⟨⟨⟨⟨h1, h2⟩, h3⟩, h4⟩, h5⟩, h6⟩, h7⟩, h8⟩ := h
      have z := TrE.lc (p := ‹Pos›) (ownOf N is) h2 (chkT_ok h3) (chkI_ok it h4) (chkE_ok e1 h5) (chkEs_ok cs h6) h7 (by rw [h1]; exact h8)
      rw [h1] at z
      exact z
    · cases h
  | .own a, sc, e, h => by
    simp only [chkE, Bool.and_eq_true] at h
    exact .own (chkE_ok a h.1.1) h.1.2 h.2
  | .repF a n, sc, e, h => by
    simp only [chkE] at h
    refine TrE.unstrip ?_
    split at h
    · rename_i w; rw [w]
      simp only [Bool.and_eq_true, decide_eq_true_eq] at h
      obtain ⟨⟨⟨rfl, h2⟩, h3⟩, h4⟩ := h
      exact .repF (chkE_ok a h2) h3 (chkE_ok n h4)
    · cases h
  | .catF a b, sc, e, h => by
    simp only [chkE] at h
    refine TrE.unstrip ?_
    split at h
    · rename_i w; rw [w]
      simp only [Bool.and_eq_true, decide_eq_true_eq] at h
      obtain ⟨⟨⟨rfl, h2⟩, h3⟩, h4⟩ := h
      exact .catF (chkE_ok a h2) (chkE_ok b h3) h4
    · cases h
  | .lstA xs, sc, e, h => by
    simp only [chkE] at h
    refine TrE.unstrip ?_
    split at h
    · rename_i w; rw [w]
      simp only [Bool.and_eq_true, decide_eq_true_eq] at h
      exact .lstA (chkEs_ok xs h.1) h.2
    · cases h
  | .rev a, sc, e, h => by
    simp only [chkE] at h
    refine TrE.unstrip ?_
    split at h
    · rename_i w; rw [w]
      simp only [Bool.and_eq_true, decide_eq_true_eq] at h
      obtain ⟨rfl, h2⟩ := h
      exact .rev (chkE_ok a h2)
    · cases h
  | .mk k t j, sc, e, h => by
    simp only [chkE] at h
    refine TrE.unstrip ?_
    split at h
    · rename_i w; rw [w]
      split at h
      · rename_i L hL
        simp only [Bool.and_eq_true, decide_eq_true_eq] at h
        obtain ⟨⟨⟨⟨⟨h1, h2⟩, h3⟩, h4⟩, h5⟩, h6⟩ := h
        exact .mk hL h1 (by rw [noArgs_eq h2, noArgs_eq h3]) (eqE_eq h4) h5 h6 (by rw [noArgs_eq h2]; exact ⟨rfl, rfl⟩)
      · cases h
    · cases h
  | .callv a, sc, e, h => by
    cases a with
    | v i =>
      simp only [chkE] at h
      refine TrE.unstrip ?_
      split at h
      · rename_i w; rw [w]
        simp only [Bool.and_eq_true, decide_eq_true_eq, Bool.not_eq_true'] at h
        exact .callv h.1.1.1 (visB_ok h.1.1.2) (dbg_ok h.1.2) h.2
      · cases h
    | _ => simp [chkE] at h
  | .exv a, sc, e, h => by
    simp only [chkE] at h
    refine TrE.unstrip ?_
    split at h
    · rename_i w; rw [w]
      simp only [Bool.and_eq_true, decide_eq_true_eq] at h
      obtain ⟨⟨rfl, h2⟩, h3⟩ := h
      exact .exv (chkE_ok a h2) h3
    · cases h
  | .isC a cs, sc, e, h => by
    simp only [chkE] at h
    refine TrE.unstrip ?_
    split at h
    · rename_i w; rw [w]
      simp only [Bool.and_eq_true, decide_eq_true_eq] at h
      obtain ⟨⟨⟨⟨⟨⟨rfl, h2⟩, h3⟩, h4⟩, h5⟩, h6⟩, h7⟩ := h
      split at h6
      · rename_i k hk
        have e1 : cs = g.sb k := of_decide_eq_true h6
        subst e1
        exact .isC (inB_ok h2) (gbB_ok h3) (gbB_ok h4) hk (dbg_ok h5) (chkE_ok a h7)
      · cases h6
    · cases h
  | .isV a, sc, e, h => by
    simp only [chkE] at h
    refine TrE.unstrip ?_
    split at h
    · rename_i w; rw [w]
      simp only [Bool.and_eq_true, decide_eq_true_eq] at h
      obtain ⟨⟨⟨⟨⟨⟨rfl, rfl⟩, h2⟩, h3⟩, h4⟩, h5⟩, h6⟩ := h
      exact .isV (inB_ok h2) (gbB_ok h4) (inB_ok h3) (gbB_ok h5) (chkE_ok a h6)
    · cases h
theorem chkI_ok : ∀ (i : Itr) {sc : Scope} {tg e : Expr}, chkI g N i sc tg e = true → TrI g N sc tg e i
  | .e a, sc, tg, e, h => by
    simp only [chkI] at h
    exact .e (chkE_ok a h)
  | .rng xs, sc, tg, e, h => by
    simp only [chkI] at h
    split at h
    · simp only [Bool.and_eq_true, decide_eq_true_eq] at h
      obtain ⟨⟨⟨⟨rfl, h2⟩, h3⟩, h4⟩, h5⟩ := h
      exact .rng (inB_ok h2) (gbB_ok h3) (chkEs_ok xs h5) h4
    · cases h
  | .zip a b, sc, tg, e, h => by
    simp only [chkI] at h
    split at h
    · simp only [Bool.and_eq_true, decide_eq_true_eq] at h
      obtain ⟨⟨⟨⟨rfl, h2⟩, h3⟩, h4⟩, h5⟩ := h
      exact .zip (inB_ok h2) (gbB_ok h3) (chkE_ok a h4) (chkE_ok b h5)
    · cases h
  | .enum a, sc, tg, e, h => by
    simp only [chkI] at h
    split at h
    · simp only [Bool.and_eq_true, decide_eq_true_eq] at h
      obtain ⟨⟨⟨rfl, h2⟩, h3⟩, h4⟩ := h
      exact .enum (inB_ok h2) (gbB_ok h3) (chkE_ok a h4)
    · cases h
theorem chkEs_ok : ∀ (i : Exs) {sc : Scope} {es : List Expr}, chkEs g N i sc es = true → TrEs g N sc es i
  | .nil, sc, es, h => by
    simp only [chkEs] at h
    cases es with
    | nil => exact .nil
    | cons _ _ => cases h
  | .cons a r, sc, es, h => by
    simp only [chkEs] at h
    split at h
    · simp only [Bool.and_eq_true] at h
      exact .cons (chkE_ok a h.1) (chkEs_ok r h.2)
    · cases h
end
end
end Pv
set_option Elab.async false
set_option maxRecDepth 100000
set_option linter.unusedVariables false
/-! Pv15: the check for statements. -/
namespace Pv
open PySem PySem.Spec PyProof.Rows L2
def chkSet (sc : Scope) (x : Str) (py : Pos) (e : Expr) : Bool :=
  if notComp e then locB sc x else (match e with
    | .ListComp _ _ scope p => kB sc x .local && decide (sc.kind = .function) && (py.line == p.line) && !(scope.names.any fun (n, k) => n == x && (k == .local || k == .cell))
    | _ => false)
def chkPar (N : List Str) (sc : Scope) (i j : Nat) (x y : Str) (px py : Pos) (a b : Expr) : Bool :=
  decide (N[i]? = some x) && decide (N[j]? = some y) && decide (i ≠ j) && decide (sc.kind = .function) && kB sc x .local && kB sc y .local && (py.line == px.line) && decide (x ≠ y) && (!isStar a && !isStar b && !(foldedForSure 8 a && foldedForSure 8 b) && !(constantsAlone 8 a && constantsAlone 8 b))
def chkPar3 (N : List Str) (sc : Scope) (i j l : Nat) (x y z : Str) (px py pz : Pos) (a b c : Expr) : Bool :=
  decide (N[i]? = some x) && decide (N[j]? = some y) && decide (N[l]? = some z) && decide (i ≠ j) && decide (i ≠ l) && decide (j ≠ l) && decide (sc.kind = .function) && kB sc x .local && kB sc y .local && kB sc z .local && (py.line == px.line) && (pz.line == px.line) && decide (x ≠ y) && decide (x ≠ z) && decide (y ≠ z) &&
    (!isStar a && !isStar b && !isStar c && !(foldedForSure 8 a && (foldedForSure 8 b && foldedForSure 8 c)) && !(constantsAlone 8 a && (constantsAlone 8 b && constantsAlone 8 c)))
def chkUnp (sc : Scope) (es : List Expr) (e : Expr) : Bool := notTup e || (match e with
  | .Tuple vs _ _ => (!(es.length == 2 || es.length == 3) || vs.length != es.length) || ((vs.any isStar || vs.all (foldedForSure 8)) || es.any (notLoc sc))
  | _ => false)
/-- the word of an except clause -/
def chkCx (g : Stat) (N : List Str) (sc : Scope) (cx nm : Str) (cs : List Nat) (n : Nat) : Bool :=
  kB sc cx .globalImplicit && dbg cx && (match g.cn cx with
    | some k => eqNs cs (g.sb k)
    | none => false) && decide (N[n]? = some nm) && kB sc nm .local && dbg nm && !(nm == ("__classdict__" : Str))
def chkTry0 (N : List Str) (sc : Scope) (i : Option Nat) (s0 : Stmt) : Option Expr := match i, s0 with
  | some j, .Assign [.Name x _] e _ => if decide (N[j]? = some x) && locB sc x && notComp e then some e else none
  | none, .Return (some e) _ => some e
  | _, _ => none
mutual
def chkS (g : Stat) (N : List Str) (sc : Scope) : Sm → Stmt → Bool
  | .set i e', s => (match s with
    | .Assign [.Name x py] e _ => decide (N[i]? = some x) && chkE g N e' sc e && chkSet sc x py e
    | _ => false)
  | .par i j a b, s => (match s with
    | .Assign [.Tuple [.Name x px, .Name y py] _ _] (.Tuple [ea, eb] _ _) _ => chkPar N sc i j x y px py ea eb && chkE g N a sc ea && chkE g N b sc eb
    | _ => false)
  | .par3 i j l a b c, s => (match s with
    | .Assign [.Tuple [.Name x px, .Name y py, .Name z pz] _ _] (.Tuple [ea, eb, ec] _ _) _ => chkPar3 N sc i j l x y z px py pz ea eb ec && chkE g N a sc ea && chkE g N b sc eb && chkE g N c sc ec
    | _ => false)
  | .unp is e', s => (match s with
    | .Assign [.Tuple es _ _] e _ => chkTs N sc sc is es && chkE g N e' sc e && chkUnp sc es e
    | _ => false)
  | .six a i e', s => (match s with
    | .Assign [.Subscript o j _] e _ => chkE g N a sc o && chkE g N i sc j && chkE g N e' sc e
    | _ => false)
  | .ret e', s => (match s with
    | .Return (some e) _ => chkE g N e' sc e
    | _ => false)
  | .retN, s => (match s with
    | .Return none _ => true
    | _ => false)
  | .ife t a b, s => (match s with
    | .If c p q _ => chkE g N t sc c && chkSs g N sc a p && chkSs g N sc b q
    | _ => false)
  | .whl t b, s => (match s with
    | .While c p [] _ => chkE g N t sc c && chkSs g N sc b p
    | _ => false)
  | .for_ t it b, s => (match s with
    | .For tg e p [] _ => chkT N sc sc t tg && chkI g N it sc tg e && chkSs g N sc b p
    | _ => false)
  | .forL t it b, s => (match s with
    | .For tg e p [] _ => chkT N sc sc t tg && chkE g N it sc e && chkSs g N sc b p
    | _ => false)
  | .tryS i e' cs n j, s => (match s with
    | .Try [.Assign [.Name x _] e _] [.ExceptHandler (some (.Name cx _)) (some nm) [.Assign [.Name y _] (.Name nm2 _) _] _] [] [] _ => decide (nm2 = nm) && decide (N[i]? = some x) && locB sc x && decide (N[j]? = some y) && locB sc y && decide (j ≠ n) && chkCx g N sc cx nm cs n && chkE g N e' sc e && notComp e
    | _ => false)
  | .tryR i e' cs n, s => (match s with
    | .Try [s0] [.ExceptHandler (some (.Name cx _)) (some nm) [.Return (some (.Tuple [.Name nm2 _, .Constant .none _ _] _ _)) _] _] [] [] _ => decide (nm2 = nm) && chkCx g N sc cx nm cs n && (match chkTry0 N sc i s0 with
      | some e => chkE g N e' sc e
      | none => false)
    | _ => false)
  | .nev, _ => true
  | .expr e', s => (match s with
    | .Expr e _ => chkE g N e' sc e && notComp e
    | _ => false)
  | .app a e', s => (match s with
    | .Expr (.Call (.Attribute o n ap) [e] [] cp) _ => decide (n = ("append" : Str)) && chkE g N a sc o && chkE g N e' sc e && (ap.endLine == cp.line) && appBase o
    | _ => false)
  | .pass, s => (match s with
    | .Pass _ => true
    | .Expr (.Constant (.str _) _ _) _ => true
    | _ => false)
  | .brk, s => (match s with
    | .Break _ => true
    | _ => false)
  | .cont, s => (match s with
    | .Continue _ => true
    | _ => false)
  | .raise k e', s => (match s with
    | .Raise (some (.Call (.Name x _) [e] [] _)) none _ => kB sc x .globalImplicit && decide (g.cn x = some k) && dbg x && chkE g N e' sc e
    | _ => false)
def chkSs (g : Stat) (N : List Str) (sc : Scope) : Ss → List Stmt → Bool
  | .nil, s => s.isEmpty
  | .cons a r, s => (match s with
    | x :: xs => chkS g N sc a x && chkSs g N sc r xs
    | [] => false)
end
section
variable {g : Stat} {N : List Str} {sc : Scope}
theorem chkSet_ok {x : Str} {py pos : Pos} {e : Expr} {i : Nat} {e' : Ex} (h1 : N[i]? = some x) (h2 : TrE g N sc e e') (h : chkSet sc x py e = true) : TrS g N sc (.Assign [.Name x py] e pos) (.set i e') := by
  unfold chkSet at h
  split at h
  · exact .set h1 (locB_ok h) h2 ‹_›
  · split at h
    · simp only [Bool.and_eq_true, decide_eq_true_eq, kB, Bool.not_eq_true'] at h
      obtain ⟨⟨⟨k1, k2⟩, k3⟩, k4⟩ := h
      cases h2 with
      | lc own hb ht hi he hc h1' hin => exact .setLc own h1 k1 k2 k3 k4 hb ht hi he hc h1' hin
      | own hh hz hf =>
        cases hh with
        | lc own hb ht hi he hc h1' hin => exact .setLcO own h1 k1 k2 k3 k4 hb ht hi he hc h1' hin
        | own _ _ _ => exact nomatch hz
    · cases h
theorem chkUnp_ok {es : List Expr} {k : Nat} {p : Pos} {e : Expr} (h : chkUnp sc es e = true) (env : Env) (he : env.scope = sc) : swappedStores [.Tuple es k p] e env = pure none := by
  unfold chkUnp at h
  cases q : notTup e with
  | true => exact swapped_no q _ env
  | false =>
    rw [q, Bool.false_or] at h
    split at h
    · cases w : (!(es.length == 2 || es.length == 3) || List.length _ != es.length) with
      | true => exact swapped_len w env
      | false =>
        rw [w, Bool.false_or, Bool.or_eq_true] at h
        rcases h with h | h
        · exact swapped_folded h env
        · exact swapped_cell h env he
    · cases h
theorem chkCx_ok {cx nm : Str} {cs : List Nat} {n : Nat} (h : chkCx g N sc cx nm cs n = true) : ∃ k, cs = g.sb k ∧ Gb sc cx ∧ (cx == ("__debug__" : Str)) = false ∧ g.cn cx = some k ∧ N[n]? = some nm ∧ sc.names.lookup nm = some .local ∧ (nm == ("__debug__" : Str)) = false ∧ (nm == ("__classdict__" : Str)) = false := by
  simp only [chkCx, Bool.and_eq_true, decide_eq_true_eq, Bool.not_eq_true'] at h
  obtain ⟨⟨⟨⟨⟨⟨h1, h2⟩, h3⟩, h4⟩, h5⟩, h6⟩, h7⟩ := h
  split at h3
  · rename_i k hk
    exact ⟨k, of_decide_eq_true h3, gbB_ok h1, dbg_ok h2, hk, h4, of_decide_eq_true h5, dbg_ok h6, h7⟩
  · cases h3
theorem chkTry0_ok {i : Option Nat} {s0 : Stmt} {e : Expr} (h : chkTry0 N sc i s0 = some e) : (∃ j x p1 p2, i = some j ∧ N[j]? = some x ∧ Loc sc x ∧ s0 = .Assign [.Name x p1] e p2 ∧ notComp e = true) ∨ (i = none ∧ ∃ p2, s0 = .Return (some e) p2) := by
  unfold chkTry0 at h
  split at h
  · split at h
    · rename_i hc
      simp only [Bool.and_eq_true, decide_eq_true_eq] at hc
      simp only [Option.some.injEq] at h
      subst h
      exact .inl ⟨_, _, _, _, rfl, hc.1.1, locB_ok hc.1.2, rfl, hc.2⟩
    · cases h
  · simp only [Option.some.injEq] at h
    subst h
    exact .inr ⟨rfl, _, rfl⟩
  · cases h
mutual
theorem chkS_ok : ∀ (i : Sm) {s : Stmt}, chkS g N sc i s = true → TrS g N sc s i
  | .set i e', s, h => by
    simp only [chkS] at h
    split at h
    · simp only [Bool.and_eq_true, decide_eq_true_eq] at h
      exact chkSet_ok h.1.1 (chkE_ok e' h.1.2) h.2
    · cases h
  | .par i j a b, s, h => by
    simp only [chkS] at h
    split at h
    · simp only [chkPar, kB, Bool.and_eq_true, decide_eq_true_eq] at h
      obtain ⟨⟨⟨⟨⟨⟨⟨⟨⟨⟨k1, k2⟩, k3⟩, k4⟩, k5⟩, k6⟩, k7⟩, k8⟩, k9⟩, ha⟩, hb⟩ := h
      exact .par k1 k2 k3 k4 k5 k6 k7 k8 (chkE_ok a ha) (chkE_ok b hb) (by simp only [Bool.and_eq_true]; exact k9)
    · cases h
  | .par3 i j l a b c, s, h => by
    simp only [chkS] at h
    split at h
    · simp only [Bool.and_eq_true] at h
      obtain ⟨⟨⟨h, ha⟩, hb⟩, hc⟩ := h
      unfold chkPar3 at h
      rw [Bool.and_eq_true] at h
      obtain ⟨h, k16⟩ := h
      simp only [kB, Bool.and_eq_true, decide_eq_true_eq] at h
      obtain ⟨⟨⟨⟨⟨⟨⟨⟨⟨⟨⟨⟨⟨⟨k1, k2⟩, k3⟩, k4⟩, k5⟩, k6⟩, k7⟩, k8⟩, k9⟩, k10⟩, k11⟩, k12⟩, k13⟩, k14⟩, k15⟩ := h
      exact .par3 k1 k2 k3 k4 k5 k6 k7 k8 k9 k10 k11 k12 k13 k14 k15 (chkE_ok a ha) (chkE_ok b hb) (chkE_ok c hc) k16
    · cases h
  | .unp is e', s, h => by
    simp only [chkS] at h
    split at h
    · simp only [Bool.and_eq_true] at h
      exact .unp (chkTs_ok h.1.1) (chkE_ok e' h.1.2) fun env he => chkUnp_ok h.2 env he
    · cases h
  | .six a i e', s, h => by
    simp only [chkS] at h
    split at h
    · simp only [Bool.and_eq_true] at h
      exact .six (chkE_ok a h.1.1) (chkE_ok i h.1.2) (chkE_ok e' h.2)
    · cases h
  | .ret e', s, h => by
    simp only [chkS] at h
    split at h
    · exact .ret (chkE_ok e' h)
    · cases h
  | .retN, s, h => by
    simp only [chkS] at h
    split at h
    · exact .retN
    · cases h
  | .ife t a b, s, h => by
    simp only [chkS] at h
    split at h
    · simp only [Bool.and_eq_true] at h
      exact .ife (chkE_ok t h.1.1) (chkSs_ok a h.1.2) (chkSs_ok b h.2)
    · cases h
  | .whl t b, s, h => by
    simp only [chkS] at h
    split at h
    · simp only [Bool.and_eq_true] at h
      exact .whl (chkE_ok t h.1) (chkSs_ok b h.2)
    · cases h
  | .for_ t it b, s, h => by
    simp only [chkS] at h
    split at h
    · simp only [Bool.and_eq_true] at h
      exact .for_ (chkT_ok h.1.1) (chkI_ok it h.1.2) (chkSs_ok b h.2)
    · cases h
  | .forL t it b, s, h => by
    simp only [chkS] at h
    split at h
    · simp only [Bool.and_eq_true] at h
      exact .forL (chkT_ok h.1.1) (chkE_ok it h.1.2) (chkSs_ok b h.2)
    · cases h
  | .tryS i e' cs n j, s, h => by
    simp only [chkS] at h
    split at h
    · simp only [Bool.and_eq_true, decide_eq_true_eq] at h
      obtain ⟨⟨⟨⟨⟨⟨⟨⟨rfl, h2⟩, h3⟩, h4⟩, h5⟩, h6⟩, h7⟩, h8⟩, h9⟩ := h
      obtain ⟨k, rfl, c1, c2, c3, c4, c5, c6, c7⟩ := chkCx_ok h7
      exact .tryS h2 (locB_ok h3) h4 (locB_ok h5) c4 c5 h6 c1 c3 c2 c6 c7 (chkE_ok e' h8) h9
    · cases h
  | .tryR i e' cs n, s, h => by
    simp only [chkS] at h
    split at h
    · simp only [Bool.and_eq_true, decide_eq_true_eq] at h
      obtain ⟨⟨rfl, h7⟩, h8⟩ := h
      obtain ⟨k, rfl, c1, c2, c3, c4, c5, c6, c7⟩ := chkCx_ok h7
      split at h8
      · rename_i e0 he0
        exact .tryR (chkTry0_ok he0) c4 c5 c1 c3 c2 c6 c7 (chkE_ok e' h8)
      · cases h8
    · cases h
  | .nev, s, h => .nev
  | .expr e', s, h => by
    simp only [chkS] at h
    split at h
    · simp only [Bool.and_eq_true] at h
      exact .expr (chkE_ok e' h.1) h.2
    · cases h
  | .app a e', s, h => by
    simp only [chkS] at h
    split at h
    · simp only [Bool.and_eq_true, decide_eq_true_eq] at h
      obtain ⟨⟨⟨⟨rfl, h2⟩, h3⟩, h4⟩, h5⟩ := h
      exact .app (chkE_ok a h2) (chkE_ok e' h3) h4 h5
    · cases h
  | .pass, s, h => by
    simp only [chkS] at h
    split at h
    · exact .pass
    · exact .doc
    · cases h
  | .brk, s, h => by
    simp only [chkS] at h
    split at h
    · exact .brk
    · cases h
  | .cont, s, h => by
    simp only [chkS] at h
    split at h
    · exact .cont
    · cases h
  | .raise k e', s, h => by
    simp only [chkS] at h
    split at h
    · simp only [Bool.and_eq_true, decide_eq_true_eq] at h
      obtain ⟨⟨⟨h1, h2⟩, h3⟩, h4⟩ := h
      exact .raise (gbB_ok h1) h2 (dbg_ok h3) (chkE_ok e' h4)
    · cases h
theorem chkSs_ok : ∀ (i : Ss) {s : List Stmt}, chkSs g N sc i s = true → TrSs g N sc s i
  | .nil, s, h => by
    simp only [chkSs] at h
    cases s with
    | nil => exact .nil
    | cons _ _ => cases h
  | .cons a r, s, h => by
    simp only [chkSs] at h
    split at h
    · simp only [Bool.and_eq_true] at h
      exact .cons (chkS_ok a h.1) (chkSs_ok r h.2)
    · cases h
end
end
end Pv
set_option Elab.async false
set_option maxRecDepth 100000
set_option linter.unusedVariables false
/-! Pv16: defs; what they hand back. -/
namespace Pv
open PySem PySem.Spec PyProof.Rows L2
structure DefI where
  name : Str
  st : Stmt
  N : List Str
  fn : Fn
  kw : Bool := false
def DefI.ps (i : DefI) : List Str := i.N.take i.fn.np
structure LamI where
  own : Nat
  q : Str
  params : Arguments
  body : Expr
  scope : Scope
  ex : Ex
def LamI.d (l : LamI) : LamD := ⟨l.own, l.q, l.params, l.body, l.scope⟩
structure ClsI where
  name : Str
  sb : List Nat
def tabT (ds : List DefI) (k : Nat) : Option Fn := ds[k]?.map (·.fn)
def lamT (ls : List LamI) (k : Nat) : Option (Nat × Ex) := ls[k]?.map fun l => (l.own, l.ex)
def statOf (ds : List DefI) (ls : List LamI) (cs : List ClsI) (G : Str → Option PyData) (im : Str → Option String) (bl : List Str) : Stat where
  G := G
  F := fun x => ds.findIdx? fun i => decide (i.name = x)
  ps := fun k => ((ds[k]?).map DefI.ps).getD []
  kw := fun k => ((ds[k]?).map DefI.kw).getD false
  im := im
  bl := bl
  lm := fun k => ls[k]?.map LamI.d
  cn := fun x => cs.findIdx? fun c => decide (c.name = x)
  sb := fun k => ((cs[k]?).map ClsI.sb).getD []
/-- what a text says of a def -/
structure DefS (g : Stat) (i : DefI) : Prop where
  sc : FnScope i.N i.ps (defScope i.st)
  body : chkSs g i.N (defScope i.st) i.fn.body (defBody i.st) = true
  nn : i.fn.nn = i.N.length
  np : i.ps.length = i.fn.np
  b1 : ∀ (kV doc pm : Value) (an : Option Addr) (cdv ct : Value) (us : List Value), us.length = i.ps.length → bindArgs (PySem.W.fnOf i.name i.name (defArgs i.st) (defBody i.st) (defScope i.st) .none kV doc pm an cdv ct) ⟨us, []⟩ = pure (i.ps.zip us)
  b2 : i.kw = true → ∀ (kV doc pm : Value) (an : Option Addr) (cdv ct : Value) (us : List Value), us.length = i.ps.length → bindArgs (PySem.W.fnOf i.name i.name (defArgs i.st) (defBody i.st) (defScope i.st) .none kV doc pm an cdv ct) ⟨[], i.ps.zip us⟩ = pure (i.ps.zip us)
/-- the name that a def's lambdas bear -/
def lamQ (x : Str) : Str := (x ++ ".<locals>.") ++ "<lambda>"
/-- what a text says of a lambda -/
structure LamW (g : Stat) (ds : List DefI) (l : LamI) : Prop where
  at_ : ∃ i, ds[l.own]? = some i ∧ i.fn.md = .me l.own ∧ chkE g i.N l.ex l.scope l.body = true ∧ l.q = lamQ i.name ∧ noArgs l.params = true ∧ LamX.lamSB (defScope i.st) l.scope = true
theorem enr_start {Z : Kc} {H : Hp} {m av : List Addr} : ∀ {as : List A} {vs : List V}, RepAs Z H m av as vs → ∀ n, EnR Z H m av (as.map some ++ List.replicate n none) (vs.map some ++ List.replicate n none)
  | _, _, .nil, 0 => .nil
  | _, _, .nil, n + 1 => .emp (enr_start .nil n)
  | _, _, .cons h r, n => .val h (enr_start r n)
section
variable {Z Z' : Kc} {ou : Option (En × SL)}
theorem plain_re {H : Hp} {m av : List Addr} {S : Sto} {ou' : Option (En × SL)} (hK : Z'.K = Z.K) (hT : Z'.tb = Z.tb) (p : S.all plainO = true) (R : Rel Z ou m av H S) (hou : ∀ q, ou' = some q → EnR Z' H m av q.1 q.2) : Rel Z' ou' m av H S :=
  ⟨R.sub, R.live, R.noc, R.nd, (R.sto.impS fun o a ho _ r => by
    have hp := List.all_eq_true.mp p o ho
    cases o with
    | lst ds =>
      obtain ⟨vs, h1, h2⟩ := r
      exact ⟨vs, h1, by rw [hK]; exact h2⟩
    | tab j =>
      obtain ⟨q, h1, h2⟩ := r
      exact ⟨q, by rw [hT]; exact h1, h2⟩
    | lsa as => exact nomatch hp), hou⟩
theorem plain_as {H : Hp} {m av : List Addr} (hK : Z'.K = Z.K) : ∀ {as : List A} {vs : List V}, as.all plainA = true → RepAs Z H m av as vs → RepAs Z' H m av as vs
  | _, _, _, .nil => .nil
  | a :: as, _, p, .cons h r => by
    simp only [List.all_cons, Bool.and_eq_true] at p
    refine .cons ?_ (plain_as hK p.2 r)
    cases a with
    | d x => exact (show Rep Z'.K H av x _ by rw [hK]; exact h)
    | ref i => exact h
    | _ => exact nomatch p.1
/-- an exception, with less around -/
theorem ExR.less {K : PySem.W.Frag} {ca : Nat → Option Addr} {H : Hp} {av av' : List Addr} {k : Nat} {p : PyData} {cls : Value} {d : Option Addr} (s : ∀ a ∈ av', a ∈ av) (x : ExR K ca H av k p cls d) : ExR K ca H av' k p cls d := by
  obtain ⟨C, dd, fs, v, x1, x2, x3, x4, x5, x6, x7⟩ := x
  exact ⟨C, dd, fs, v, x1, x2, x3, fun z => x4 (s _ z), x5, x6, Rep.less s x7⟩
mutual
theorem frz_rep {m av ms : List Addr} {H H1 : Hp} {S S2 : Sto} (R : Rel Z ou m av H S) (E1 : Evo m H ms H1) (R1 : Rel Z ou (m ++ ms) (av ++ ms) H1 S2) : ∀ {a a' : A} {v : V}, RepA Z H1 (m ++ ms) (av ++ ms) a v → frz S2 S.length a = some a' → RepA Z H1 m av a' v
  | .d x, a', v, r, e => by
    simp only [frz, Option.some.injEq] at e
    subst e
    exact Rep.less (fun b hb => List.mem_append_left _ hb) (show Rep Z.K H1 (av ++ ms) x v from r)
  | .ref i, a', v, r, e => by
    obtain ⟨p, h1, rfl⟩ := r
    simp only [frz] at e
    split at e
    · rename_i hi
      simp only [Option.some.injEq] at e
      subst e
      refine ⟨p, ?_, rfl⟩
      rw [List.getElem?_append_left (by rw [← R.len]; exact hi)] at h1
      exact h1
    · rename_i hi
      split at e
      · rename_i ds q
        simp only [Option.some.injEq] at e
        subst e
        obtain ⟨b, vs, h2, h3, h4⟩ := R1.at_ q
        rw [h1] at h2; cases h2
        refine Rep.lstH (.inl h3) (fun z => ?_) (RepAll.less (fun b hb => List.mem_append_left _ hb) h4)
        have hm : p ∈ ms := by
          rw [List.getElem?_append_right (by rw [← R.len]; omega)] at h1
          exact List.mem_of_getElem? h1
        have e0 := E1.new p hm
        obtain ⟨u, hu⟩ := R.live p z
        rw [hu] at e0; cases e0
      · cases e
  | .tup as, a', v, r, e => by
    obtain ⟨p, vs, rfl, h1, h2, h3⟩ := r
    simp only [frz] at e
    cases q : frzs S2 S.length as with
    | none => rw [q] at e; cases e
    | some as' =>
      rw [q] at e
      simp only [Option.map_some, Option.some.injEq] at e
      subst e
      exact ⟨p, vs, rfl, h1, fun z => h2 (List.mem_append_left _ z), frzs_rep R E1 R1 h3 q⟩
  | .exc c p, a', v, r, e => by
    simp only [frz, Option.some.injEq] at e
    subst e
    obtain ⟨a, C, dd, fs, w, e1, e2, e3, e4, e5, e6, e7, e8⟩ := r
    exact ⟨a, C, dd, fs, w, e1, e2, e3, fun z => e4 (List.mem_append_left _ z), e5, fun z => e6 (List.mem_append_left _ z), e7, Rep.less (fun b hb => List.mem_append_left _ hb) e8⟩
  | .lam k, a', v, r, e => by
    simp only [frz, Option.some.injEq] at e
    subst e
    obtain ⟨a, c', L, e1, e2, e3, e4, e5, e6⟩ := r
    exact ⟨a, c', L, e1, e2, e3, fun z => e4 (List.mem_append_left _ z), e5, fun z => e6 (List.mem_append_left _ z)⟩
theorem frzs_rep {m av ms : List Addr} {H H1 : Hp} {S S2 : Sto} (R : Rel Z ou m av H S) (E1 : Evo m H ms H1) (R1 : Rel Z ou (m ++ ms) (av ++ ms) H1 S2) : ∀ {as as' : List A} {vs : List V}, RepL Z H1 (m ++ ms) (av ++ ms) as vs → frzs S2 S.length as = some as' → RepL Z H1 m av as' vs
  | [], as', vs, r, e => by
    simp only [frzs, Option.some.injEq] at e
    subst e
    cases vs with
    | nil => trivial
    | cons _ _ => exact r.elim
  | a :: as, as', [], r, e => r.elim
  | a :: as, as', v :: vs, r, e => by
    simp only [frzs] at e
    cases q : frz S2 S.length a with
    | none => rw [q] at e; cases e
    | some x =>
      rw [q] at e
      cases q2 : frzs S2 S.length as with
      | none => rw [q2] at e; cases e
      | some xs =>
        rw [q2] at e
        simp only [Option.bind_some, Option.map_some, Option.some.injEq] at e
        subst e
        exact ⟨frz_rep R E1 R1 r.1 q, frzs_rep R E1 R1 r.2 q2⟩
end
theorem ou_drop {m av ms : List Addr} {H H1 : Hp} {S : Sto} (R : Rel Z ou m av H S) (E1 : Evo m H ms H1) : ∀ p, ou = some p → EnR Z H1 m av p.1 p.2 := fun p hp => by
  have z := EnR.evo2 (ms := []) E1 R.sub (R.ou p hp)
  rw [List.append_nil] at z
  exact EnR.less (fun a ha => List.mem_append_left _ ha) z
theorem cut_ok {n : Nat} {S : Sto} {r : R A} {m av : List Addr} {H : Hp} {Q : VK} {E : XK} (P : PostA Z ou m av H (cut n S r) Q E) : (S.take n).all (closedO n) = true ∧ PostA Z ou m av H r Q E := by
  unfold cut at P
  split at P
  · exact ⟨‹_›, P⟩
  · exact P.elim
/-- the end of a def's body -/
abbrev endD (Q : VK) : Ends := { nx := fun _ H' => Q .non H', rt := Q }
theorem fin_post {m av : List Addr} {H : Hp} {S : Sto} {r : Pv.R Fl} {Q : VK} {E : XK} (R : Rel Z ou m av H S) (Pp : PostA Z ou m av H (outOf S.length r) Q E) : PostS Z ou m av H r (endD Q) E := by
  have go : ∀ (a : A) (S2 : Sto), PostA Z ou m av H (fin S.length a S2) Q E → ∀ ms H1 v, Evo m H ms H1 → Rel Z ou (m ++ ms) (av ++ ms) H1 S2 → RepA Z H1 (m ++ ms) (av ++ ms) a v → Q v H1 := by
    intro a S2 Pp ms H1 v E1 R1 r1
    unfold fin at Pp
    split at Pp
    · rename_i a' q
      obtain ⟨hc, P2⟩ := cut_ok Pp
      exact P2 [] H1 v ⟨E1.keep, fun _ h => nomatch h⟩ (by rw [List.append_nil, List.append_nil]; exact R.drop R1 R.len hc (ou_drop R E1)) (by rw [List.append_nil, List.append_nil]; exact frz_rep R E1 R1 r1 q)
    · exact Pp.elim
  cases r with
  | no => exact Pp.elim
  | ex k p S2 =>
    intro ms H1 cls d E1 R1 x
    obtain ⟨hc, P2⟩ := cut_ok Pp
    exact P2 [] H1 cls d ⟨E1.keep, fun _ h => nomatch h⟩ (by rw [List.append_nil, List.append_nil]; exact R.drop R1 R.len hc (ou_drop R E1)) (ExR.less (fun b hb => by rw [List.append_nil] at hb; exact List.mem_append_left _ hb) x)
  | ok f S2 =>
    intro ms H1 v E1 R1 r1
    cases f with
    | nx σd =>
      cases v with
      | nx σ => exact go (.d .none) S2 Pp ms H1 .non E1 R1 Rep.non
      | _ => exact r1.elim
    | rt a =>
      cases v with
      | rt v => exact go a S2 Pp ms H1 v E1 R1 r1
      | _ => exact r1.elim
    | bk σd => exact Pp.elim
    | ct σd => exact Pp.elim
theorem keep_post {m av : List Addr} {H : Hp} {r : Pv.R Fl} {Q : VK} {E : XK} (Pp : PostA Z ou m av H (outKeep r) Q E) : PostS Z ou m av H r (endD Q) E := by
  cases r with
  | no => exact Pp.elim
  | ex k p S2 => exact Pp
  | ok f S2 =>
    intro ms H1 v E1 R1 r1
    cases f with
    | nx σd =>
      cases v with
      | nx σ => exact Pp ms H1 .non E1 R1 Rep.non
      | _ => exact r1.elim
    | rt a =>
      cases v with
      | rt v => exact Pp ms H1 v E1 R1 r1
      | _ => exact r1.elim
    | bk σd => exact Pp.elim
    | ct σd => exact Pp.elim
/-- the body saw no store -/
theorem pure_post {m av : List Addr} {H : Hp} {S0 : Sto} {r : Pv.R Fl} {Q : VK} {E : XK} (R : Rel Z ou m av H S0) (R0 : Rel Z none [] av H []) (Pp : PostA Z ou m av H (outPure S0 r) Q E) : PostS Z none [] av H r (endD Q) E := by
  have go : ∀ (x : PyData) (S2 : Sto), PostA Z ou m av H (.ok (.d x) S0) Q E → ∀ ms H1 v, Evo [] H ms H1 → Rep Z.K H1 av x v → Q v H1 := by
    intro x S2 P2 ms H1 v E1 r1
    have kp : ∀ a u, H a = some u → H1 a = some u := fun a u h => E1.keep a u h (fun z => nomatch z)
    have e2 : Evo m H [] H1 := ⟨fun a u h _ => kp a u h, fun _ h => nomatch h⟩
    exact P2 [] H1 v e2 (by rw [List.append_nil, List.append_nil]; exact R.moved e2 kp) (by rw [List.append_nil, List.append_nil]; exact r1)
  cases r with
  | no => exact Pp.elim
  | ex k p S2 =>
    intro ms H1 cls d E1 R1 x
    have kp : ∀ a u, H a = some u → H1 a = some u := fun a u h => E1.keep a u h (fun z => nomatch z)
    have e2 : Evo m H [] H1 := ⟨fun a u h _ => kp a u h, fun _ h => nomatch h⟩
    exact Pp [] H1 cls d e2 (by rw [List.append_nil, List.append_nil]; exact R.moved e2 kp) (ExR.less (fun b hb => by rw [List.append_nil] at hb; exact List.mem_append_left _ hb) x)
  | ok f S2 =>
    intro ms H1 v E1 R1 r1
    cases f with
    | nx σd =>
      cases v with
      | nx σ => exact go .none S2 Pp ms H1 .non E1 Rep.non
      | _ => exact r1.elim
    | rt a =>
      cases v with
      | rt v =>
        simp only [outPure] at Pp
        split at Pp
        · rename_i x q
          have z : RepA Z H1 [] av (.d x) v := frz_rep R0 E1 R1 r1 q
          exact go x S2 Pp ms H1 v E1 z
        · exact Pp.elim
      | _ => exact r1.elim
    | bk σd => exact Pp.elim
    | ct σd => exact Pp.elim
/-- no lambda left -/
theorem me_post {m av : List Addr} {H : Hp} {S0 : Sto} {ou' : Option (En × SL)} {r : Pv.R A} {Q : VK} {E : XK} (hK : Z'.K = Z.K) (hT : Z'.tb = Z.tb) (hC : Z'.ca = Z.ca) (R : Rel Z ou m av H S0) (Pp : PostA Z ou m av H (outMe r) Q E) : PostA Z' ou' m av H r Q E := by
  cases r with
  | no => exact Pp.elim
  | ex k p S2 =>
    intro ms H1 cls d E1 R1 x
    simp only [outMe] at Pp
    split at Pp
    · rename_i hp
      exact Pp ms H1 cls d E1 (plain_re hK.symm hT.symm hp R1 fun q hq => EnR.evo0 R.sub E1 (R.ou q hq)) (by rw [← hK, ← hC]; exact x)
    · exact Pp.elim
  | ok a S2 =>
    intro ms H1 v E1 R1 r1
    cases a with
    | d x =>
      simp only [outMe] at Pp
      split at Pp
      · rename_i hp
        exact Pp ms H1 v E1 (plain_re hK.symm hT.symm hp R1 fun q hq => EnR.evo0 R.sub E1 (R.ou q hq)) (show Rep Z.K H1 _ x v by rw [← hK]; exact r1)
      · exact Pp.elim
    | _ => exact Pp.elim
end
end Pv
set_option Elab.async false
set_option maxRecDepth 100000
set_option linter.unusedVariables false
/-! Pv17: a table of defs does what the expressions say. -/
namespace Pv
open PySem PySem.Spec PyProof.Rows L2
/-- what the top has written of the table -/
structure TabK (g : Stat) (ds : List DefI) (P : Program) (w : World) (K : PySem.W.Frag) (mg : Str → Option Value) (base : Heap) (ca : Nat → Option Addr) (tb : Nat → Option (Addr × Str)) : Prop where
  defs : ∀ (k : Nat) (i : DefI), ds[k]? = some i → ∃ f fd, mg i.name = some (.ref f) ∧ Fun K i.name i.name i.st f fd
  glob : ∀ x dt, g.G x = some dt → ∃ u v, mg x = some u ∧ RelV v u ∧ ∀ H av, Rep K H av dt v
  bl : ∀ x ∈ g.bl, mg x = none
  im : ∀ x id, g.im x = some id → mg x = some (.builtin id)
  exc : ExcOk g P w K mg base ca
  tab : ∀ (j : Nat) (i : DefI), ds[j]? = some i → i.fn.md = .me j → ∃ f fd oc od osl cd Pt, mg i.name = some (.ref f) ∧ K.lookup f = some ⟨oc, od, .func fd, osl⟩ ∧ fd.code = .ref cd ∧ LamX.TabB base mg cd Pt ∧ tb j = some (Pt, lamQ i.name)
/-- only the running frame is added -/
theorem un_outer {X : Cx} {pins : List (Addr × Obj)} {σ : SL} {H H2 : Hp} {s s2 : Shared} (I : Inv X pins σ H s) (hx : X.ex = []) (hs : X.stack = X.env :: X.outer) (hf : X.env.frame = some X.env.locals) (u : Un (frs X.stack) [] H H2 s.heap s2.heap) : Un (frs X.outer) [] X.H_0 H2 X.s_0.heap s2.heap := by
  have sub : ∀ b ∈ frs X.outer, b ∈ frs X.stack := fun b hb => by
    obtain ⟨e, he, q⟩ := List.mem_filterMap.mp hb
    exact List.mem_filterMap.mpr ⟨e, by rw [hs]; exact List.mem_cons_of_mem _ he, q⟩
  have t := (I.base.mono sub (fun b hb => by rw [hx] at hb; exact hb)).trans u
  refine ⟨fun b o q n hb he => ?_, fun b o q n hb he => t.any q n he, t.free, t.there, t.tups, t.frzs, t.tbls⟩
  refine t.keep b o q n (fun z => ?_) he
  rcases List.mem_filterMap.mp z with ⟨e, he2, q2⟩
  rw [hs] at he2
  rcases List.mem_cons.mp he2 with z2 | z2
  · subst z2
    rw [hf] at q2
    simp only [Option.some.injEq] at q2
    have h1 := Heap.lt_size q
    have h2 := I.ok.above
    rw [q2] at h2
    exact absurd (Nat.lt_of_lt_of_le h1 h2) (Nat.lt_irrefl _)
  · exact hb (List.mem_filterMap.mpr ⟨e, z2, q2⟩)
section
variable {ds : List DefI} {ls : List LamI} {cs : List ClsI} {G : Str → Option PyData} {im : Str → Option String} {bl : List Str}
theorem statF {x : Str} {k : Nat} (h : (statOf ds ls cs G im bl).F x = some k) : ∃ i, ds[k]? = some i ∧ i.name = x := by
  have h : ds.findIdx? (fun i => decide (i.name = x)) = some k := h
  rw [List.findIdx?_eq_some_iff_getElem] at h
  obtain ⟨hk, h1, _⟩ := h
  exact ⟨ds[k], List.getElem?_eq_getElem hk, of_decide_eq_true h1⟩
theorem len_no {fuel d n : Nat} {lm : LamC} {as : List A} {S : Sto} {j : DefI} (hj : ds[n]? = some j) (hb : as.length ≠ j.fn.np) : callF (tabT ds) (lamT ls) fuel d lm n as S = .no := by
  cases d with
  | zero => rfl
  | succ d =>
    have eT : tabT ds n = some j.fn := by unfold tabT; rw [hj]; rfl
    simp only [callF, eT]
    rw [if_neg hb]
end
section
variable {P : Program} {w : World} {K : PySem.W.Frag} {mg : Str → Option Value} {base : Heap} {fuel : Nat} {ds : List DefI} {ls : List LamI} {cs : List ClsI} {G : Str → Option PyData} {im : Str → Option String} {bl : List Str} {ca : Nat → Option Addr} {tb : Nat → Option (Addr × Str)}
/-- what is known of the calls at a depth -/
abbrev Calls' (P : Program) (w : World) (K : PySem.W.Frag) (mg : Str → Option Value) (base : Heap) (fuel : Nat) (ds : List DefI) (ls : List LamI) (cs : List ClsI) (G : Str → Option PyData) (im : Str → Option String) (bl : List Str) (ca : Nat → Option Addr) (tb : Nat → Option (Addr × Str)) (d : Nat) : Prop :=
  ∀ (k : Nat) (i : DefI) (f : Addr) (fd : FuncData), ds[k]? = some i → mg i.name = some (.ref f) → Fun K i.name i.name i.st f fd → FnD P w K ca (statOf ds ls cs G im bl).lm tb mg base d (fun lc => callF (tabT ds) (lamT ls) fuel d lc k) f i.ps i.kw
theorem xok_gen (hS : ∀ (k : Nat) (i : DefI), ds[k]? = some i → DefS (statOf ds ls cs G im bl) i) (hK : TabK (statOf ds ls cs G im bl) ds P w K mg base ca tb) {d : Nat} (ih : Calls' P w K mg base fuel ds ls cs G im bl ca tb d)
    {X : Cx} {N : List Str} {sc : Scope} {lam : En → LamC} {tbc : Option Nat} {cl : List (Str × Addr)} {ou : Option (En × SL)} (x1 : X.prog = P) (x2 : X.w = w) (x3 : X.K = K) (x4 : X.mg = mg) (x5 : X.base = base) (x6 : X.N = N) (x7 : X.env.scope = sc) (nd : N.Nodup) (hr : Room d X.A) (hg : X.A.guards = some []) (calm : X.calm = true)
    (lams : ∀ pins σd σ H s m av S, Inv X pins σ H s → EnR (zc X ⟨cl, ou, ca, (statOf ds ls cs G im bl).lm, tb⟩) H m av σd σ → Rel (zc X ⟨cl, ou, ca, (statOf ds ls cs G im bl).lm, tb⟩) ou m av H S →
      ∃ ou', Rel (zc X ⟨cl, ou, ca, (statOf ds ls cs G im bl).lm, tb⟩) ou' m av H S ∧ LamOk X.prog X.w X.K X.mg X.base (zc X ⟨cl, ou, ca, (statOf ds ls cs G im bl).lm, tb⟩) ou' (lam σd) (frs X.stack) [] H s.heap ∧ ∀ m av H S, Rel (zc X ⟨cl, ou, ca, (statOf ds ls cs G im bl).lm, tb⟩) ou' m av H S → Rel (zc X ⟨cl, ou, ca, (statOf ds ls cs G im bl).lm, tb⟩) ou m av H S)
    (tab : ∀ j, tbc = some j → ∃ cd P q, X.env.code = .ref cd ∧ LamX.TabB X.base X.mg cd P ∧ tb j = some (P, q) ∧ q = X.env.qual ++ "<lambda>" ∧ cl = X.env.cells ∧ ∀ k L, (statOf ds ls cs G im bl).lm k = some L → L.own = j → L.q = q) :
    XOk (statOf ds ls cs G im bl) N sc d ⟨callF (tabT ds) (lamT ls) fuel d, lam, fuel, d, tbc⟩ X ⟨cl, ou, ca, (statOf ds ls cs G im bl).lm, tb⟩ where
  N_ := x6
  sc_ := x7
  nd := nd
  room := hr
  gds := hg
  calm := calm
  glob := by rw [x3, x4]; exact hK.glob
  bl := by rw [x4]; exact hK.bl
  im := by rw [x4]; exact hK.im
  calls := fun y n hn => by
    obtain ⟨j, hj, rfl⟩ := statF hn
    obtain ⟨fj, fdj, h1, h2⟩ := hK.defs n j hj
    have e1 : (statOf ds ls cs G im bl).ps n = j.ps := by
      show ((ds[n]?).map DefI.ps).getD [] = _
      rw [hj]; rfl
    have e2 : (statOf ds ls cs G im bl).kw n = j.kw := by
      show ((ds[n]?).map DefI.kw).getD false = _
      rw [hj]; rfl
    refine ⟨fj, by rw [x4]; exact h1, by rw [x3]; exact h2.kp, ?_, fun lc bs T hb => ?_⟩
    · rw [e1, e2, x1, x2, x3, x4, x5]
      exact ih n j fj fdj hj h1 h2
    · rw [e1, (hS n j hj).np] at hb
      exact len_no hj hb
  exc := by rw [x1, x2, x3, x4, x5]; exact hK.exc
  lm := rfl
  dd := rfl
  lams := lams
  tab := tab
/-- a def is called: its body, and what its body says -/
theorem def_call {i : DefI} {f : Addr} {oc : Value} {od an : Option Addr} {kV doc pm cdv ct : Value} {osl : Array (Option Value)} (S : DefS (statOf ds ls cs G im bl) i) (lk : K.lookup f = some ⟨oc, od, .func (PySem.W.fnOf i.name i.name (defArgs i.st) (defBody i.st) (defScope i.st) .none kV doc pm an cdv ct), osl⟩) (hcd : PySem.W.codeIn K cdv i.name = true)
    {d : Nat} {A' : Around} {outer : List Env} {s : Shared} {H : Hp} {args : Args} {us : List Value} {vs : List V} {Q : VK} {E : XK} (hr : Room (d + 1) A') (e0 : Env0 P w K mg base A' outer s H) (hb : BindsTo s (PySem.W.fnOf i.name i.name (defArgs i.st) (defBody i.st) (defScope i.st) .none kV doc pm an cdv ct) args (i.ps.zip us)) (hl : us.length = i.ps.length) (r : Vals vs us)
    (hbody : wss (cxOf (L2.CX P w) P w K mg base i.N i.name (defScope i.st) f cdv A' outer s H E) (defBody i.st) (endD Q) (L2.start i.N vs) H) :
    codeAny (model P w) A' (.call (.ref f) args) (CR (L2.CX P w) outer P w H s Q E) s := by
  have hlv : vs.length = i.ps.length := by rw [r.length]; exact hl
  have KX : K.In s.heap := e0.mod.kin.keeps fun b o e => (e0.bs b o e).1
  have lim : s.heap.NoLimit := e0.mod.nolimit.keeps fun b o e => (e0.bs b o e).1
  have hkind : ∀ y ∈ i.ps.zip us, (defScope i.st).names.lookup y.1 = some .local ∨ ((defScope i.st).names.lookup y.1 = some .cell ∧ ((cellsFrom (s.heap.objs.size + 1) (defScope i.st).names []).lookup y.1).isSome = true) := fun ⟨n, v⟩ hy => by
    rcases S.sc.par n (List.of_mem_zip hy).1 with q | q
    · exact .inl q
    · exact .inr ⟨q, PySem.W.cellsFrom_some _ _ _ (.inl q)⟩
  refine codeAny_call_function hr.depth (KX _ _ lk) rfl S.sc.co S.sc.gen rfl (PySem.W.codeRec_of KX hcd) (hb _ _ _ _ ?_)
  refine wpAny_newFunctionEnv_cells S.sc.kind hkind fun env he s1 x => ?_
  subst he
  refine ⟨lim.keeps x.toInCall.keep, codeAny_func ?_⟩
  let X0 : Cx := cxOf (L2.CX P w) P w K mg base i.N i.name (defScope i.st) f cdv A' outer s H E
  have I : Inv X0 [] (L2.start i.N vs) H s1 := inv_start S.sc hr.hd e0 hlv r x
  refine wpAny_mono (hbody [] s1 I) (fun fl s' hs => ?_) fun e s' hs => hs
  have fin : ∀ {σ' : L2.St} {H' : Hp} {v : V} {u : Value}, Inv X0 [] σ' H' s' → RelV v u → Q v H' → CE outer P w H s Q u s' :=
    fun {σ' H' v u} J rv q => ⟨v, H', J.os, J.bare, J.base, J.hok, rv, q⟩
  cases fl with
  | ret u =>
    obtain ⟨v, σ', H', J, rv, q⟩ := hs
    exact fin J rv q
  | next =>
    obtain ⟨σ', H', J, q⟩ := hs
    exact fin (v := V.non) (u := Value.none) J rfl q
  | brk =>
    obtain ⟨_, _, _, q⟩ := hs
    exact False.elim q
  | cont =>
    obtain ⟨_, _, _, q⟩ := hs
    exact False.elim q
/-- the lambdas of a def that runs, from a state of it on -/
theorem lam_ok (hS : ∀ (k : Nat) (i : DefI), ds[k]? = some i → DefS (statOf ds ls cs G im bl) i) (hL : ∀ (k : Nat) (l : LamI), ls[k]? = some l → LamW (statOf ds ls cs G im bl) ds l) (hK : TabK (statOf ds ls cs G im bl) ds P w K mg base ca tb) {d : Nat} (ih : Calls' P w K mg base fuel ds ls cs G im bl ca tb d)
    {j : Nat} {i : DefI} (hj : ds[j]? = some i) {f0 : Addr} {cdv : Value} {A0 : Around} {outer : List Env} {s0 : Shared} {H0 : Hp} {E0 : XK} {pins : List (Addr × Obj)} {σd : En} {σ : SL} {H : Hp} {s : Shared}
    (I : Inv (cxOf (L2.CX P w) P w K mg base i.N i.name (defScope i.st) f0 cdv A0 outer s0 H0 E0) pins σ H s) :
    LamOk P w K mg base ⟨K, (envOfC i.name (defScope i.st) s0.heap.objs.size f0 cdv).cells, ca, (statOf ds ls cs G im bl).lm, tb⟩ (some (σd, σ)) ⟨d + 1, fun k S => match lamT ls k with
        | some (j', e) => if j' = j then ev ⟨callF (tabT ds) (lamT ls) fuel d, fun _ => noLam, fuel, d, none⟩ e σd S else .no
        | none => .no⟩ (frs (cxOf (L2.CX P w) P w K mg base i.N i.name (defScope i.st) f0 cdv A0 outer s0 H0 E0).stack) [] H s.heap := by
  intro A' outer' s2 H2 k f m av S Q E hr hgd e0 un rk R2 Pp
  obtain ⟨a, c', L, ea, e1, e2, e3, e4, e5⟩ := rk
  cases ea
  obtain ⟨l, hl, rfl⟩ : ∃ l, ls[k]? = some l ∧ l.d = L := by
    have e1 : (ls[k]?).map LamI.d = some L := e1
    cases q : ls[k]? with
    | none => rw [q] at e1; cases e1
    | some l =>
      rw [q] at e1
      simp only [Option.map_some, Option.some.injEq] at e1
      exact ⟨l, rfl, e1⟩
  have eL : lamT ls k = some (l.own, l.ex) := by unfold lamT; rw [hl]; rfl
  simp only [eL] at Pp
  by_cases ho : l.own = j
  case neg => rw [if_neg ho] at Pp; exact Pp.elim
  rw [if_pos ho] at Pp
  obtain ⟨i', h1, h2, h3, h4, h5, h6⟩ := (hL k l hl).at_
  rw [ho, hj] at h1
  cases h1
  let X0 : Cx := cxOf (L2.CX P w) P w K mg base i.N i.name (defScope i.st) f0 cdv A0 outer s0 H0 E0
  have LS : LamX.LamS X0.env.scope l.scope := LamX.lamS_by h6
  obtain ⟨⟨pm, ctv, hf⟩, _, _⟩ := e0.hok f _ e2
  obtain ⟨⟨oc, vs, t, hoc, hdc, hvc⟩, _, _⟩ := e0.hok c' _ e4
  have lim : s2.heap.NoLimit := e0.mod.nolimit.keeps fun b o e => (e0.bs b o e).1
  have hn := noArgs_eq h5
  have hq : l.q = X0.env.qual ++ "<lambda>" := h4
  have hf' : s2.heap.get? f = some (PySem.W.kla_obj "<lambda>" (X0.env.qual ++ "<lambda>") l.params l.body l.scope (cloFrom X0.env.cells l.scope.names []) pm c' ctv) := by rw [← hq]; exact hf
  have hvc' : vs[1]? = some (.str (X0.env.qual ++ "<lambda>") t) := by rw [← hq]; exact hvc
  refine PySem.W.kla_callFunE hr.depth hf' rfl LS.co LS.gen rfl ⟨c', oc, vs, t, rfl, hoc, hdc, hvc'⟩ ?_
  have hbind : bindArgs (PySem.W.kla_fn "<lambda>" (X0.env.qual ++ "<lambda>") l.params l.body l.scope (cloFrom X0.env.cells l.scope.names []) pm (.ref c') ctv) ⟨[], []⟩ = pure [] := by rw [hn]; rfl
  rw [hbind]
  refine wpAny_pure (wpAny_newFunctionEnv (fun y hy => (LS.own y hy).2) (fun y hy => absurd hy (by simp)) (fun h₁ hns hsb => ⟨lim.fresh _ hsb, ?_⟩) LS.kind)
  have kp : ∀ b o, s2.heap.get? b = some o → h₁.get? b = some o := fun b o e => hsb.extBut b o (Nat.ne_of_lt (Heap.lt_size e)) (Heap.get?_push_of_some _ e)
  have J : Inv (LamX.lamCx X0 A' outer' s2 H2 E l.scope f c') [] σ H2 { s2 with heap := h₁, toks := s2.toks + ([] : List (Str × Value)).length } :=
    LamX.lam_start2 I LS e0 hr.hd un hns kp
  have ok : XOk (statOf ds ls cs G im bl) i.N l.scope d ⟨callF (tabT ds) (lamT ls) fuel d, fun _ => noLam, fuel, d, none⟩ (LamX.lamCx X0 A' outer' s2 H2 E l.scope f c') ⟨X0.env.cells, some (σd, σ), ca, (statOf ds ls cs G im bl).lm, tb⟩ :=
    xok_gen hS hK ih rfl rfl rfl rfl rfl rfl rfl (hS j i hj).sc.nd (hr.deeper _) hgd rfl (fun _ _ _ _ _ _ _ _ _ _ R => ⟨some (σd, σ), R, lamOk_no, fun _ _ _ _ z => z⟩) fun _ z => nomatch z
  have tk : Takes (LamX.lamCx X0 A' outer' s2 H2 E l.scope f c') (fun cls d _ H => E cls d H) := takes_of (X := LamX.lamCx X0 A' outer' s2 H2 E l.scope f c') (E := E) rfl rfl rfl (E₁ := fun e' s'' => L2.CX P w outer' H2 s2 E e' s'') rfl
  have body := (chkE_ok l.ex h3).snd.v (d := d) (c := ⟨callF (tabT ds) (lamT ls) fuel d, fun _ => noLam, fuel, d, none⟩) _ _ ok _ tk σd σ H2 m av S Q E (fun _ _ _ h => h) (R2.ou _ rfl) R2 Pp
  refine PySem.W.kla_codeExpr (wpAny_mono (body [] _ J) (fun v s' hq => ?_) fun e s' hq => hq)
  obtain ⟨w', H', J', rv, q⟩ := hq
  exact ⟨w', H', J'.os, J'.bare, J'.base, J'.hok, rv, q⟩
end
end Pv
set_option Elab.async false
set_option maxRecDepth 100000
set_option linter.unusedVariables false
/-! Pv17b: each def, each kind. -/
namespace Pv
open PySem PySem.Spec PyProof.Rows L2
theorem datas_any {Z : Kc} {H : Hp} {m m' av : List Addr} : ∀ {as : List A} {vs : List V} {ds : List PyData}, datas as = some ds → RepAs Z H m av as vs → RepAs Z H m' av as vs
  | _, _, _, _, .nil => .nil
  | a :: as, _, ds, e, .cons h r => by
    cases a with
    | d x =>
      simp only [datas] at e
      cases q : datas as with
      | none => rw [q] at e; cases e
      | some ys => exact .cons h (datas_any q r)
    | _ => simp [datas] at e
section
variable {P : Program} {w : World} {K : PySem.W.Frag} {mg : Str → Option Value} {base : Heap} {fuel : Nat} {ds : List DefI} {ls : List LamI} {cs : List ClsI} {G : Str → Option PyData} {im : Str → Option String} {bl : List Str} {ca : Nat → Option Addr} {tb : Nat → Option (Addr × Str)}
theorem fn_ok (hS : ∀ (k : Nat) (i : DefI), ds[k]? = some i → DefS (statOf ds ls cs G im bl) i) (hL : ∀ (k : Nat) (l : LamI), ls[k]? = some l → LamW (statOf ds ls cs G im bl) ds l) (hM : ∀ (k : Nat) (i : DefI) (j : Nat), ds[k]? = some i → i.fn.md = .me j → j = k) (hK : TabK (statOf ds ls cs G im bl) ds P w K mg base ca tb) {d : Nat} (ih : ∀ e, e ≤ d → Calls' P w K mg base fuel ds ls cs G im bl ca tb e) :
    Calls' P w K mg base fuel ds ls cs G im bl ca tb (d + 1) := by
  intro k i f fd hk hf F
  have S := hS k i hk
  obtain ⟨oc, od, kV, doc, pm, an, cdv, ct, osl, rfl, lk, hcd⟩ := F.ex
  refine ⟨_, fun s us hl => .of_eq (S.b1 kV doc pm an cdv ct us hl), fun hkw s us hl => .of_eq (S.b2 hkw kV doc pm an cdv ct us hl), ?_⟩
  intro cl ou lc A' outer s H args us vs as m av S0 Q E hr hgd e0 hb hl r ra Rl hLam Pp
  have hlv : vs.length = i.ps.length := by rw [r.length]; exact hl
  have hla : as.length = i.fn.np := by rw [ra.length, hlv]; exact S.np
  have eT : tabT ds k = some i.fn := by unfold tabT; rw [hk]; rfl
  refine def_call S lk hcd hr e0 hb hl r ?_
  let X0 : Cx := cxOf (L2.CX P w) P w K mg base i.N i.name (defScope i.st) f cdv A' outer s H E
  have tk : Takes X0 (fun cls d _ H => E cls d H) := takes_of (X := X0) (E := E) rfl rfl rfl (E₁ := fun e' s'' => L2.CX P w outer H s E e' s'') rfl
  have po : PassesOwn (model X0.prog X0.w) X0.A X0.env X0.xe := passes_of (X := X0) (K := fun e s'' => L2.CX P w outer H s E e s'') (E₁ := fun e' s'' => L2.CX P w outer H s E e' s'') rfl
  have en : ∀ {Z : Kc} {m' : List Addr}, RepAs Z H m' av as vs → EnR Z H m' av (Pv.start i.fn.nn as) (L2.start i.N vs) := fun ra' => by
    unfold Pv.start L2.start
    rw [S.nn, ra.length]
    exact enr_start ra' _
  have tr := chkSs_ok _ S.body
  simp only [callF, eT, hla, if_true] at Pp
  cases hmd : i.fn.md with
  | std =>
    simp only [hmd] at Pp
    have ok : XOkS (statOf ds ls cs G im bl) i.N (defScope i.st) d ⟨callF (tabT ds) (lamT ls) fuel d, fun _ => lc, fuel, d, none⟩ X0 ⟨cl, ou, ca, (statOf ds ls cs G im bl).lm, tb⟩ := by
      refine ⟨xok_gen hS hK (ih d (Nat.le_refl _)) rfl rfl rfl rfl rfl rfl rfl S.sc.nd (hr.deeper _) hgd rfl (fun pins σd σ H1 s1 m1 av1 S1 I1 En1 R1 => ⟨ou, R1, ?_, fun _ _ _ _ z => z⟩) (fun _ z => nomatch z), fun _ => rfl, po, rfl, rfl⟩
      intro A2 out2 s2 H2 k2 f2 m2 av2 S2 Q2 E2 hr2 hg2 e2 un2 rk2 R2 P2
      exact hLam A2 out2 s2 H2 k2 f2 m2 av2 S2 Q2 E2 hr2 hg2 e2 (un_outer I1 rfl rfl rfl un2) rk2 R2 P2
    exact tr.snds (d := d) (c := ⟨callF (tabT ds) (lamT ls) fuel d, fun _ => lc, fuel, d, none⟩) X0 _ ok _ tk _ (L2.start i.N vs) H m av S0 (endD Q) E (fun _ _ _ _ h => h) (en ra) Rl (fin_post Rl Pp)
  | keep =>
    simp only [hmd] at Pp
    have ok : XOkS (statOf ds ls cs G im bl) i.N (defScope i.st) d ⟨callF (tabT ds) (lamT ls) fuel d, fun _ => lc, fuel, d, none⟩ X0 ⟨cl, ou, ca, (statOf ds ls cs G im bl).lm, tb⟩ := by
      refine ⟨xok_gen hS hK (ih d (Nat.le_refl _)) rfl rfl rfl rfl rfl rfl rfl S.sc.nd (hr.deeper _) hgd rfl (fun pins σd σ H1 s1 m1 av1 S1 I1 En1 R1 => ⟨ou, R1, ?_, fun _ _ _ _ z => z⟩) (fun _ z => nomatch z), fun _ => rfl, po, rfl, rfl⟩
      intro A2 out2 s2 H2 k2 f2 m2 av2 S2 Q2 E2 hr2 hg2 e2 un2 rk2 R2 P2
      exact hLam A2 out2 s2 H2 k2 f2 m2 av2 S2 Q2 E2 hr2 hg2 e2 (un_outer I1 rfl rfl rfl un2) rk2 R2 P2
    exact tr.snds (d := d) (c := ⟨callF (tabT ds) (lamT ls) fuel d, fun _ => lc, fuel, d, none⟩) X0 _ ok _ tk _ (L2.start i.N vs) H m av S0 (endD Q) E (fun _ _ _ _ h => h) (en ra) Rl (keep_post Pp)
  | pure =>
    simp only [hmd] at Pp
    cases hd : datas as with
    | none => simp only [hd] at Pp; exact Pp.elim
    | some xs =>
      simp only [hd] at Pp
      have ok : XOkS (statOf ds ls cs G im bl) i.N (defScope i.st) d ⟨callF (tabT ds) (lamT ls) fuel d, fun _ => noLam, fuel, d, none⟩ X0 ⟨cl, none, ca, (statOf ds ls cs G im bl).lm, tb⟩ :=
        ⟨xok_gen hS hK (ih d (Nat.le_refl _)) rfl rfl rfl rfl rfl rfl rfl S.sc.nd (hr.deeper _) hgd rfl (fun pins σd σ H1 s1 m1 av1 S1 I1 En1 R1 => ⟨none, R1, lamOk_no, fun _ _ _ _ z => z⟩) (fun _ z => nomatch z), fun _ => rfl, po, rfl, rfl⟩
      have R0 : Rel ⟨K, cl, ca, (statOf ds ls cs G im bl).lm, tb⟩ none [] av H [] := ⟨(fun _ z => nomatch z), Rl.live, Rl.noc, List.nodup_nil, .nil, fun _ z => nomatch z⟩
      exact tr.snds (d := d) (c := ⟨callF (tabT ds) (lamT ls) fuel d, fun _ => noLam, fuel, d, none⟩) X0 _ ok _ tk _ (L2.start i.N vs) H [] av [] (endD Q) E (fun _ _ _ _ h => h) (en (datas_any hd ra)) R0 (pure_post Rl R0 Pp)
  | me j =>
    simp only [hmd] at Pp
    have hjk := hM k i j hk hmd
    subst hjk
    by_cases hp : S0.all plainO = true ∧ as.all plainA = true
    case neg => rw [if_neg hp] at Pp; exact Pp.elim
    rw [if_pos hp] at Pp
    obtain ⟨f', fd', oc', od', osl', cd, Pt, t1, t2, t3, t4, t5⟩ := hK.tab j i hk hmd
    rw [hf] at t1
    cases t1
    rw [lk] at t2
    cases t2
    have t3 : cdv = .ref cd := t3
    have R0 : Rel ⟨K, X0.env.cells, ca, (statOf ds ls cs G im bl).lm, tb⟩ none m av H S0 := plain_re (Z := ⟨K, cl, ca, (statOf ds ls cs G im bl).lm, tb⟩) rfl rfl hp.1 Rl fun _ z => nomatch z
    have nm : ∀ k L, (statOf ds ls cs G im bl).lm k = some L → L.own = j → L.q = lamQ i.name := fun k L e h => by
      have e1 : (ls[k]?).map LamI.d = some L := e
      cases q : ls[k]? with
      | none => rw [q] at e1; cases e1
      | some l =>
        rw [q] at e1
        simp only [Option.map_some, Option.some.injEq] at e1
        subst e1
        obtain ⟨i', h1, h2, h3, h4, h5, h6⟩ := (hL k l q).at_
        have h : l.own = j := h
        rw [h, hk] at h1
        cases h1
        exact h4
    have key : ∀ lam : En → LamC, (∀ pins σd σ H1 s1, Inv X0 pins σ H1 s1 → LamOk P w K mg base ⟨K, X0.env.cells, ca, (statOf ds ls cs G im bl).lm, tb⟩ (some (σd, σ)) (lam σd) (frs X0.stack) [] H1 s1.heap) →
        PostA ⟨K, cl, ca, (statOf ds ls cs G im bl).lm, tb⟩ ou m av H (outMe (outOf S0.length (sts ⟨callF (tabT ds) (lamT ls) fuel d, lam, fuel, d, some j⟩ i.fn.body (Pv.start i.fn.nn as) S0))) Q E → wss X0 (defBody i.st) (endD Q) (L2.start i.N vs) H := by
      intro lam hlam Pp
      have P0 := me_post (Z := ⟨K, cl, ca, (statOf ds ls cs G im bl).lm, tb⟩) (Z' := ⟨K, X0.env.cells, ca, (statOf ds ls cs G im bl).lm, tb⟩) (ou' := none) rfl rfl rfl Rl Pp
      have ok : XOkS (statOf ds ls cs G im bl) i.N (defScope i.st) d ⟨callF (tabT ds) (lamT ls) fuel d, lam, fuel, d, some j⟩ X0 ⟨X0.env.cells, none, ca, (statOf ds ls cs G im bl).lm, tb⟩ :=
        ⟨xok_gen hS hK (ih d (Nat.le_refl _)) rfl rfl rfl rfl rfl rfl rfl S.sc.nd (hr.deeper _) hgd rfl (fun pins σd σ H1 s1 m1 av1 S1 I1 En1 R1 => ⟨some (σd, σ), ⟨R1.sub, R1.live, R1.noc, R1.nd, R1.sto, fun p hp => by cases hp; exact En1⟩, hlam pins σd σ H1 s1 I1, fun _ _ _ _ z => ⟨z.sub, z.live, z.noc, z.nd, z.sto, fun _ h => nomatch h⟩⟩)
          (fun j' hj' => by cases hj'; exact ⟨cd, Pt, _, t3, t4, t5, rfl, rfl, nm⟩), fun _ => rfl, po, rfl, rfl⟩
      exact tr.snds (d := d) (c := ⟨callF (tabT ds) (lamT ls) fuel d, lam, fuel, d, some j⟩) X0 _ ok _ tk _ (L2.start i.N vs) H m av S0 (endD Q) E (fun _ _ _ _ h => h) (en (plain_as (Z := ⟨K, cl, ca, (statOf ds ls cs G im bl).lm, tb⟩) (Z' := ⟨K, X0.env.cells, ca, (statOf ds ls cs G im bl).lm, tb⟩) rfl hp.2 ra)) R0 (fin_post R0 P0)
    rcases d with _ | _ | _ | d'
    · exact key _ (fun _ _ _ _ _ _ => lamOk_no) Pp
    · exact key _ (fun _ _ _ _ _ _ => lamOk_no) Pp
    · exact key _ (fun _ _ _ _ _ _ => lamOk_no) Pp
    · exact key _ (fun pins σd σ H1 s1 I1 => lam_ok hS hL hK (ih d' (by omega)) hk I1) Pp
theorem tab_0 (hS : ∀ (k : Nat) (i : DefI), ds[k]? = some i → DefS (statOf ds ls cs G im bl) i) : Calls' P w K mg base fuel ds ls cs G im bl ca tb 0 := by
  intro k i f fd hk hf F
  obtain ⟨oc, od, kV, doc, pm, an, cdv, ct, osl, rfl, lk, hcd⟩ := F.ex
  have S := hS k i hk
  refine ⟨_, fun s us hl => .of_eq (S.b1 kV doc pm an cdv ct us hl), fun hkw s us hl => .of_eq (S.b2 hkw kV doc pm an cdv ct us hl), ?_⟩
  intro cl ou lc A' outer s H args us vs as m av S0 Q E hr hgd e0 hb hl r ra Rl hLam Pp
  exact Pp.elim
theorem tab_ok (hS : ∀ (k : Nat) (i : DefI), ds[k]? = some i → DefS (statOf ds ls cs G im bl) i) (hL : ∀ (k : Nat) (l : LamI), ls[k]? = some l → LamW (statOf ds ls cs G im bl) ds l) (hM : ∀ (k : Nat) (i : DefI) (j : Nat), ds[k]? = some i → i.fn.md = .me j → j = k) (hK : TabK (statOf ds ls cs G im bl) ds P w K mg base ca tb) (d : Nat) : Calls' P w K mg base fuel ds ls cs G im bl ca tb d := by
  have all : ∀ d e, e ≤ d → Calls' P w K mg base fuel ds ls cs G im bl ca tb e := by
    intro d
    induction d with
    | zero =>
      intro e he
      obtain rfl : e = 0 := by omega
      exact tab_0 hS
    | succ d ih =>
      intro e he
      by_cases h : e ≤ d
      · exact ih e h
      · obtain rfl : e = d + 1 := by omega
        exact fn_ok hS hL hM hK ih
  exact all d d (Nat.le_refl _)
end
end Pv
set_option Elab.async false
set_option maxRecDepth 100000
set_option linter.unusedVariables false
/-! Pv18: the law's head; one def may make lambdas, its table stands at T. -/
namespace Pv
open PySem PySem.Spec PyProof.Rows L2
section
variable {P : Program} {w : World} {K : PySem.W.Frag} {mg mb : Str → Option Value} {s₁ : Shared} {H : Hp}
/-- the world at the law's entry; H tells of lists and of an empty table alone -/
theorem head_env (KX : K.In s₁.heap) (hns : s₁.heap.Ns mainGlobals mg) (hb : s₁.heap.Ns builtinsNs mb) (hbb : ∀ x : Str, x ≠ "__name__" → mb x = bootBuiltins x) (hlim : s₁.heap.NoLimit) (hg : s₁.gens = #[])
    (free : ∀ b o, s₁.heap.get? b = some o → (∀ vs n, o.data ≠ .seq vs n) → o.data ≠ .fields #[] → H b = none) (kf : ∀ b o, K.lookup b = some o → H b = none) (hok : HOk P w H s₁.heap) : Env0 P w K mg (hidT s₁.heap H) callerA [] s₁ H := by
  have dictFree : ∀ {b o es ep}, s₁.heap.get? b = some o → o.data = .dict es ep → H b = none := fun {b o es ep} e d =>
    free b o e (fun vs n z => by rw [d] at z; cases z) (fun z => by rw [d] at z; cases z)
  have ns : ∀ {b : Addr} {m : Str → Option Value}, s₁.heap.Ns b m → (hidT s₁.heap H).Ns b m := fun {b m} x => by
    obtain ⟨o, es, ep, e, d, r⟩ := x
    exact ⟨o, es, ep, hidT_get e (dictFree e d), d, r⟩
  obtain ⟨mc, l1, l2⟩ := hlim
  exact { frames := rfl
          mod := { kin := fun b o e => hidT_get (KX b o e) (kf b o e), glob := ns hns, blt := ⟨mb, ns hb, hbb⟩, nolimit := ⟨mc, ns l1, l2⟩ }
          bs := fun b o e => of_hidT e
          bsz := Nat.le_of_eq (hidT_size _ _)
          funs := trivial
          frf := fun b z => nomatch (show b ∈ ([] : List Addr) from z)
          hok := hok
          bare := .of_eq hg }
/-- the def's code object and its table, in the base -/
theorem head_tab {c T : Addr} (hns : s₁.heap.Ns mainGlobals mg) (hT : s₁.heap.get? T = some { cls := .none, data := .fields #[] }) (C : PySem.W.CodeHd s₁.heap c T)
    (hbm : ∃ (bm : Addr) (ob : Obj), mg "__builtins__" = some (.ref bm) ∧ bm ≠ builtinsNs ∧ s₁.heap.get? bm = some ob ∧ ob.cls = .type "module" ∧ ob.dict = some builtinsNs ∧ ob.data = .plain)
    (free : ∀ b o, s₁.heap.get? b = some o → (∀ vs n, o.data ≠ .seq vs n) → o.data ≠ .fields #[] → H b = none) : LamX.TabB (hidT s₁.heap H) mg c T := by
  obtain ⟨oG, es, ep, eG, dG, rG⟩ := hns
  have ne : mainGlobals ≠ T := fun z => by
    rw [z, hT] at eG
    cases eG; cases dG
  obtain ⟨o, us, file, tf, flags, tg, inF, text, tt, e1, r1, r2, r3, r⟩ := C
  obtain ⟨bm, ob, b1, b2, b3, b4, b5, b6⟩ := hbm
  have bmG : bm ≠ mainGlobals := fun z => by
    rw [z, eG] at b3
    cases b3
    rw [dG] at b6; cases b6
  have bmT : bm ≠ T := fun z => by
    rw [z, hT] at b3
    cases b3; cases b6
  refine { code := ⟨o, us, file, tf, flags, tg, inF, text, tt, hidT_get e1 (free c o e1 ?_ ?_), r1, r2, r3, r⟩, bm := ⟨bm, ob, b1, b2, bmG, bmT, hidT_get b3 (free bm ob b3 ?_ ?_), b4, b5, b6⟩, gP := ne }
  · intro vs n z; rw [r2] at z; cases z
  · intro z
    rw [r2] at z
    cases z
    simp at r3
  · intro vs n z; rw [b6] at z; cases z
  · intro z; rw [b6] at z; cases z
end
/-- the law's call from the claim's caller; a table of code objects stands at T -/
theorem law_runT {P : Program} {w : World} {K : PySem.W.Frag} {mg mb : Str → Option Value} {fa a c T : Addr} {s₁ : Shared} {vs : List Value} {ns : List Int}
    (KX : K.In s₁.heap) (hns : s₁.heap.Ns mainGlobals mg) (hb : s₁.heap.Ns builtinsNs mb) (hbb : ∀ x : Str, x ≠ "__name__" → mb x = bootBuiltins x) (hlim : s₁.heap.NoLimit) (hg : s₁.gens = #[])
    (hT : s₁.heap.get? T = some { cls := .none, data := .fields #[] }) (nT : K.lookup T = none) (C : PySem.W.CodeHd s₁.heap c T)
    (hbm : ∃ (bm : Addr) (ob : Obj), mg "__builtins__" = some (.ref bm) ∧ bm ≠ builtinsNs ∧ s₁.heap.get? bm = some ob ∧ ob.cls = .type "module" ∧ ob.dict = some builtinsNs ∧ ob.data = .plain)
    (ha : s₁.heap.get? a = some { cls := .type "list", data := .seq vs.toArray }) (hi : IntsAre vs ns) (hl : ns.length ≤ sizeLine)
    (F : ∀ (base : Heap) (H : Hp), Env0 P w K mg base callerA [] s₁ H → LamX.TabB base mg c T → H T = some (.tbl #[]) → SqL K H a (ns.map V.int) → codeAny (model P w) callerA (.call (.ref fa) ⟨[.ref a], []⟩) (CR (L2.CX P w) [] P w H s₁ (fun v _ => v = .bl true) E0) s₁) :
    codeAny (model P w) callerA (.call (.ref fa) ⟨[.ref a], []⟩) (fun r s' => r = .ok (.ret (.bool true)) ∧ OldK s₁.heap s'.heap ∧ s'.os = s₁.os ∧ AllBare s'.gens) s₁ := by
  have lenV := hi.length
  have aT : a ≠ T := fun z => by
    rw [z, hT] at ha
    have z' : Data.fields #[] = Data.seq vs.toArray _ := congrArg Obj.data (Option.some.inj ha)
    cases z'
  have core : ∀ H : Hp, H T = some (.tbl #[]) → (∀ b, b ≠ T → b ≠ a → H b = none) → (H a = none ∨ ∃ o xs, H a = some (.frz o (.lst xs))) → (H a ≠ none → K.lookup a = none) → SqL K H a (ns.map V.int) → HOk P w H s₁.heap →
      codeAny (model P w) callerA (.call (.ref fa) ⟨[.ref a], []⟩) (fun r s' => r = .ok (.ret (.bool true)) ∧ OldK s₁.heap s'.heap ∧ s'.os = s₁.os ∧ AllBare s'.gens) s₁ := by
    intro H hHT off atA kA hS hok
    have free : ∀ b o, s₁.heap.get? b = some o → (∀ vs n, o.data ≠ .seq vs n) → o.data ≠ .fields #[] → H b = none := fun b o e h1 h2 => by
      by_cases b1 : b = T
      · rw [b1, hT] at e
        cases e
        exact absurd rfl h2
      · by_cases b2 : b = a
        · rw [b2, ha] at e
          cases e
          exact absurd rfl (h1 _ _)
        · exact off b b1 b2
    have kf : ∀ b o, K.lookup b = some o → H b = none := fun b o e => by
      by_cases b1 : b = T
      · rw [b1, nT] at e; cases e
      · by_cases b2 : b = a
        · cases q : H b with
          | none => rfl
          | some u =>
            have z := kA (by rw [← b2, q]; exact fun z => nomatch z)
            rw [b2, z] at e; cases e
        · exact off b b1 b2
    have e0 : Env0 P w K mg (hidT s₁.heap H) callerA [] s₁ H := head_env KX hns hb hbb hlim hg free kf hok
    have tb := head_tab hns hT C hbm free
    refine codeAny_mono (F _ H e0 tb hHT hS) fun r s' h => ?_
    cases r with
    | error e =>
      obtain ⟨_, _, _, _, _, _, _, _, _, _, _, _, z⟩ := h
      exact (show False from z).elim
    | ok fl =>
      cases fl with
      | next => exact False.elim h
      | brk => exact False.elim h
      | cont => exact False.elim h
      | ret u =>
        obtain ⟨v, H', os, bare, un, hok', r', q⟩ := h
        have q' : v = .bl true := q
        subst q'
        obtain rfl : u = Value.bool true := r'
        obtain ⟨more, hm⟩ := un.tbls T #[] hHT
        have hm' := hok' T _ hm
        have stay : ∀ b o, b ≠ T → s₁.heap.get? b = some o → s'.heap.get? b = some o := fun b o nb e => by
          cases q : H b with
          | none => exact un.keep b o e q (fun z => nomatch (show b ∈ ([] : List Addr) from z)) (fun z => nomatch z)
          | some u =>
            by_cases b2 : b = a
            · rcases atA with z | ⟨ob, xs, z⟩
              · rw [b2, z] at q; cases q
              · rw [← b2] at z
                obtain ⟨e1, _⟩ := hok b _ z
                obtain ⟨e2, _⟩ := hok' b _ (un.frzs b ob _ z)
                rw [e] at e1; cases e1
                exact e2
            · rw [off b nb b2] at q; cases q
        refine ⟨rfl, ⟨fun b o e => ?_, fun b o e => ?_⟩, os, bare⟩
        · by_cases b1 : b = T
          · rw [b1] at e ⊢
            rw [hT] at e
            cases e
            exact .inr (.inl ⟨(C.tab hT).isCodeTable, rfl, #[], more, rfl, hm'⟩)
          · exact .inl (stay b o b1 e)
        · by_cases b1 : b = T
          · exact ⟨_, by rw [b1]; exact hm'⟩
          · exact ⟨o, stay b o b1 e⟩
  cases hk : K.lookup a with
  | some o =>
    have e := KX a o hk
    rw [ha] at e
    cases e
    let H0 : Hp := fun b => if b = T then some (.tbl #[]) else none
    have h0 : ∀ b, b ≠ T → H0 b = none := fun b hb => if_neg hb
    refine core H0 (if_pos rfl) (fun b h _ => h0 b h) (.inl (h0 a aT)) (fun z => absurd (h0 a aT) z) (.inr ⟨_, vs.toArray, _, hk, rfl, rfl, rfl, by rw [List.size_toArray, lenV]; exact hl, by simpa using vals_ints hi⟩) fun b u z => ?_
    by_cases b1 : b = T
    · subst b1
      have z' : some (HO.tbl #[]) = some u := (if_pos rfl).symm.trans z
      cases z'
      exact hT
    · rw [h0 b b1] at z; cases z
  | none =>
    let H0 : Hp := fun b => if b = T then some (.tbl #[]) else if b = a then some (.frz { cls := .type "list", data := .seq vs.toArray } (.lst (ns.map V.int))) else none
    have hA : H0 a = some (.frz { cls := .type "list", data := .seq vs.toArray } (.lst (ns.map V.int))) := (if_neg aT).trans (if_pos rfl)
    have h0 : ∀ b, b ≠ T → b ≠ a → H0 b = none := fun b h1 h2 => (if_neg h1).trans (if_neg h2)
    refine core H0 (if_pos rfl) h0 (.inr ⟨_, _, hA⟩) (fun _ => hk) (.inl (.inr ⟨_, hA⟩)) fun b u z => ?_
    by_cases b1 : b = T
    · subst b1
      have z' : some (HO.tbl #[]) = some u := (if_pos rfl).symm.trans z
      cases z'
      exact hT
    · by_cases b2 : b = a
      · subst b2
        rw [hA] at z
        cases z
        exact ⟨ha, by rw [List.length_map]; exact hl, vs, _, vals_ints hi, ha⟩
      · rw [h0 b b1 b2] at z; cases z
theorem scr_rep {K : PySem.W.Frag} {H : Hp} {av : List Addr} {a : Addr} {ns : List Int} (h : SqL K H a (ns.map V.int)) (hn : a ∉ av) : Rep K H av (.list (ns.map PyData.int)) (.ref a) := by
  have ra : ∀ ns : List Int, RepAll K H av (ns.map PyData.int) (ns.map V.int) := fun ns => by
    induction ns with
    | nil => exact .nil
    | cons n ns ih => exact .cons (.int n) ih
  rcases h with h | h
  · exact .lstH h hn (ra ns)
  · exact .lstK h (ra ns)
/-- what the top tells of the law's defs: j is the def that makes lambdas, at f, its code object at c, its table at T -/
structure HeadK (g : Stat) (ds : List DefI) (P q : Program) (w : World) (K : PySem.W.Frag) (mg : Str → Option Value) (j : Nat) : Prop where
  defs : ∀ (k : Nat) (i : DefI), ds[k]? = some i → ∃ f fd, mg i.name = some (.ref f) ∧ Fun K i.name i.name i.st f fd
  glob : ∀ x dt, g.G x = some dt → ∃ u v, mg x = some u ∧ RelV v u ∧ ∀ H av, Rep K H av dt v
  bl : ∀ x ∈ g.bl, mg x = none
  im : ∀ x id, g.im x = some id → mg x = some (.builtin id)
  exc : ∃ ca, ∀ base : Heap, Mod K mg base → ExcOk g P w K mg base ca
  me : ∀ (k : Nat) (i : DefI) (j' : Nat), ds[k]? = some i → i.fn.md = .me j' → k = j ∧ j' = j
  one : ∃ i f fd oc od osl c T dl, ds[j]? = some i ∧ mg i.name = some (.ref f) ∧ K.lookup f = some ⟨oc, od, .func fd, osl⟩ ∧ fd.code = .ref c ∧ PySem.W.codeHdIn K c T = true ∧ K.lookup T = none ∧ dl ∈ recsOf q ∧ dl.name = i.name
theorem rec_of {x : Str} (l : List DefRec) (h : (l.any fun d => decide (d.name = x)) = true) : ∃ dl ∈ l, dl.name = x := by
  obtain ⟨dl, d1, d2⟩ := List.any_eq_true.mp h
  exact ⟨dl, d1, of_decide_eq_true d2⟩
/-- THE LAW, by the table -/
theorem walk_tab {l : PySem.W.OpenLaw} {q : Program} {loose : List Str} {XP : (Str → Option Value) → Heap → Prop} {YP : World → Heap → Prop} {d : DefRec} {K : Params → PySem.W.Frag}
    {ds : List DefI} {ls : List LamI} {cs : List ClsI} {G : Str → Option PyData} {im : Str → Option String} {bl : List Str} {n depth fuel k j : Nat} {i : DefI}
    (hn : l.most = some n) (hn2 : n ≤ sizeLine) (hdf : d.params.defaults = []) (hr : Room depth callerA) (hk : ds[k]? = some i) (hnm : i.name = d.name) (hps : i.ps.length = 1)
    (hS : ∀ (k : Nat) (i : DefI), ds[k]? = some i → DefS (statOf ds ls cs G im bl) i) (hL : ∀ (k : Nat) (q : LamI), ls[k]? = some q → LamW (statOf ds ls cs G im bl) ds q)
    (hY : ∀ (w : World) (h : Heap), YP w h → (K w.params).In h)
    (hK : ∀ (w : World) (mg : Str → Option Value) (h : Heap), (K w.params).In h → h.Ns mainGlobals mg → HeadK (statOf ds ls cs G im bl) ds l.prog q w (K w.params) mg j)
    (law : ∀ ns : List Int, ns.length ≤ n → (∀ z ∈ ns, Builtin.Int.intBits z ≤ 1048576) → ∃ S, callF (tabT ds) (lamT ls) fuel depth noLam k [.d (.list (ns.map PyData.int))] [.tab j] = .ok (.d (.bool true)) S) :
    PySem.W.WalkO q loose XP YP l.row.toRowW d [] (fun f vs => PySem.call f vs) := by
  refine Att.attach_callB hn hdf fun w s₀ s₁ mg mb fa o pm cd doc a vs ns Gr Y ho hd hcd hmg hobj hints hlen hbits hg => ?_
  have KX := hY w _ Y
  have hH := hK w mg _ KX Gr.T.g
  obtain ⟨f, fd, hf, F⟩ := hH.defs k i hk
  have e : f = fa := by
    rw [hnm, hmg] at hf
    cases hf; rfl
  subst e
  obtain ⟨ij, fj, fdj, oc, od, osl, c, T, dl, j1, j2, j3, j4, j5, j6, j7, j8⟩ := hH.one
  have C := PySem.W.codeHd_of_K KX j5
  have hT : s₁.heap.get? T = some { cls := .none, data := .fields #[] } := by
    obtain ⟨a', o', fd', c', P', h1, h2, h3, h4, h5, h6⟩ := Gr.T.tab dl j7
    rw [j8, j2] at h1
    cases h1
    have g1 := KX _ _ j3
    rw [g1] at h2
    cases h2
    cases h3
    rw [j4] at h4
    cases h4
    obtain ⟨⟨oc', vc, e1, _, e3, e4⟩, hP⟩ := h6
    obtain ⟨o2, us, file, tf, flags, tg, inF, text, tt, f1, _, f3, f4, _⟩ := id C
    rw [f1] at e1
    cases e1
    rw [f3] at e3
    cases e3
    rw [f4] at e4
    cases e4
    exact hP
  refine law_runT KX Gr.T.g Gr.T.b Gr.T.builtins Gr.T.nolimit hg hT j6 C Gr.T.bmain hobj hints (Nat.le_trans hlen hn2) fun base H e0 tB hTb hSq => ?_
  obtain ⟨ca, hca⟩ := hH.exc
  have hTab : TabK (statOf ds ls cs G im bl) ds l.prog w (K w.params) mg base ca (fun x => if x = j then some (T, lamQ ij.name) else none) :=
    ⟨hH.defs, hH.glob, hH.bl, hH.im, hca base e0.mod, fun j' i' h1 h2 => by
      obtain ⟨e1, e2⟩ := hH.me j' i' j' h1 h2
      subst e1
      rw [j1] at h1
      cases h1
      exact ⟨fj, fdj, oc, od, osl, c, T, j2, j3, j4, tB, if_pos rfl⟩⟩
  have hM : ∀ (k : Nat) (i : DefI) (j' : Nat), ds[k]? = some i → i.fn.md = .me j' → j' = k := fun k i j' h1 h2 => by
    obtain ⟨e1, e2⟩ := hH.me k i j' h1 h2
    rw [e1, e2]
  obtain ⟨fd', b1, _, run⟩ := tab_ok (P := l.prog) (w := w) (base := base) (fuel := fuel) hS hL hM hTab depth k i f fd hk hf F
  obtain ⟨S', hlaw⟩ := law ns hlen hbits
  have nTa : a ≠ T := fun z => by
    rw [z, hT] at hobj
    have z' : Data.fields #[] = Data.seq vs.toArray _ := congrArg Obj.data (Option.some.inj hobj)
    cases z'
  refine run [] none noLam callerA [] s₁ H ⟨[.ref a], []⟩ [.ref a] [.ref a] [.d (.list (ns.map PyData.int))] [T] [T] [.tab j] _ E0 hr rfl e0 (b1 s₁ _ (by rw [hps]; rfl)) (by rw [hps]; rfl) (.cons rfl .nil)
    (.cons (scr_rep hSq (by simpa using nTa)) .nil) ⟨fun _ h => h, ?_, ?_, by simp, .cons ⟨lamQ ij.name, if_pos rfl, LamX.TabS.nil hTb⟩ .nil, fun _ z => nomatch z⟩ lamOk_no (post_ok hlaw fun ms H' v E1 R1 r1 => ?_)
  · intro b hb
    rw [List.mem_singleton.mp hb]
    exact ⟨_, hTb⟩
  · intro b hb c hc
    rw [List.mem_singleton.mp hb, hTb] at hc
    unfold LamX.CodeO at hc
    cases hc
  · cases r1
    rfl
end Pv
set_option Elab.async false
set_option maxRecDepth 100000
set_option linter.unusedVariables false
/-! Pv19: the lambdas of a text, in order. -/
namespace Pv
open PySem
mutual
def lamsE : Expr → List (Arguments × Expr × Scope)
  | .Lambda a b s _ => [(a, b, s)]
  | .Tuple es _ _ => lamsEs es
  | .List es _ => lamsEs es
  | .Call f as _ _ => lamsE f ++ lamsEs as
  | .Attribute v _ _ => lamsE v
  | _ => []
def lamsEs : List Expr → List (Arguments × Expr × Scope)
  | [] => []
  | e :: es => lamsE e ++ lamsEs es
end
def lamsS : Stmt → List (Arguments × Expr × Scope)
  | .Assign _ v _ => lamsE v
  | .Expr v _ => lamsE v
  | .Return (some v) _ => lamsE v
  | _ => []
def lamsSs : List Stmt → List (Arguments × Expr × Scope)
  | [] => []
  | s :: r => lamsS s ++ lamsSs r
end Pv
set_option Elab.async false
set_option maxRecDepth 100000
set_option linter.unusedVariables false
/-! E1: an own exception C below D, whose __init__(self, value) says super().__init__(value) and self.value = value. -/
namespace Own
open PySem PySem.W PySem.Calls PyProof.Rows PySem.HandSPX
def iA (p1 p2 : Pos) : Arguments := { posonlyargs := [], args := [{ arg := "self", annotation := none, pos := p1 }, { arg := "value", annotation := none, pos := p2 }], vararg := none, kwonlyargs := [], kw_defaults := [], kwarg := none, defaults := [] }
/-- what the text of __init__ is -/
def iB (q : Nat → Pos) : List Stmt := [.Expr (.Call (.Attribute (.Call (.Name "super" (q 0)) [] [] (q 1)) "__init__" (q 2)) [.Name "value" (q 3)] [] (q 4)) (q 5), .Assign [.Attribute (.Name "self" (q 6)) "value" (q 7)] (.Name "value" (q 8)) (q 9)]
def iS : Scope := { kind := .function, names := [(PySem.Str.ofString "self", .local), (PySem.Str.ofString "value", .local), (PySem.Str.ofString "__class__", .free), (PySem.Str.ofString "super", .globalImplicit)], isGenerator := false, isCoroutine := false, more := [] }
/-- what the written part says of __init__, at fI -/
structure InitTxt (prog : Program) (K : Frag) (D fI : Addr) : Prop where
  fn : ∃ (oc : Value) (od : Option Addr) (doc pm : Value) (an : Option Addr) (cda cc : Addr) (ct : Value) (osl : Array (Option Value)) (p1 p2 : Pos) (q : Nat → Pos) (qual : Str) (ccl cl : Value) (cdd cld : Option Addr) (ccs csl : Array (Option Value)) (vs : Array Value) (file : Str) (tf : Tok),
    K.lookup fI = some ⟨oc, od, .func (ksFn "__init__" qual (iA p1 p2) (iB q) iS .none .none doc pm an (.ref cda) ct cc), osl⟩ ∧ codeIn K (.ref cda) qual = true ∧
    K.lookup cda = some ⟨ccl, cdd, .fields vs, ccs⟩ ∧ vs[2]? = some (.str file tf) ∧ ((prog.main.file : Str) == file) = true ∧ K.lookup cc = some ⟨cl, cld, .cell (some (.ref D)), csl⟩ ∧ ((q 2).endLine == (q 4).line) = true
  cls : ∃ cdD, clsIn K D = some cdD
  sup : nsIn K mainGlobals "super" = some none
  any : nsIn K cStatics "thirdparty.any" = some none
  top : (prog.main.scope.names.lookup ("super" : Str)).isSome = false
/-- what it says of the class C -/
structure ClsTxt (K : Frag) (D C fI : Addr) : Prop where
  cls : ∃ nm q N bs bm sn sub ab col dd k0 k1 k2 k3 k5, K.lookup C = some (excClassObj nm q C N bs bm true sn sub ab col dd k0 k1 k2 k3 k5 "ValueError.__new__") ∧ PySem.HandSPX.refsVE bm = true
  sa : findIn K (.ref C) "__setattr__" = some (some (.builtin "object.__setattr__"))
  ga : findIn K (.ref C) "__getattribute__" = some (some (.builtin "BaseException.__getattribute__"))
  gg : findIn K (.ref C) "__getattr__" = some none
  noN : findIn K (.ref C) "value" = some none
  iC : findIn K (.ref C) "__init__" = some (some (.ref fI))
  tC : typeIn K (.ref fI) = some (.type "function")
  kC : keepIn K (.ref C) = true
  exC : subIn K (.ref C) (.type "BaseException") = some true
  veC : subIn K (.ref C) (.type "ValueError") = some true
  tyC : typeIn K (.ref C) = some (.type "type")
  hdC : hasDictIn K C = true
  sD : mroIn K C (.ref D) = some true
  sup : ks_superIn K C D "__init__" = some (some (.builtin "ValueError.__init__"))
theorem one_size (v : Value) : [v].length ≤ sizeLine := by
  rw [sizeLine_eq]
  exact (by decide : 1 ≤ 16777216)
/-- what __init__ leaves of a fresh exception at x -/
structure InitEnd (h h' : Heap) (x C dx t1 : Addr) (v : Value) : Prop where
  keep : ∀ b o, b ≠ x → h.get? b = some o → h'.get? b = some o
  obj : h'.get? x = some { cls := .ref C, dict := some dx, data := .fields #[.ref t1, .none, .none, .none, .bool false, .none] }
  dbig : h.objs.size ≤ dx
  dne : dx ≠ x
  ns : h'.Ns1 dx (fun y => if y = "value" then some v else none)
theorem sup_eval {o : Expr} {name : Str} {apos pos : Pos} {e : Expr} {env : Env} (hl : (apos.endLine == pos.line) = true) (hs : starEach [e] env = [(false, eval e env)]) : eval (.Call (.Attribute o name apos) [e] [] pos) env = (do
      let ov ← attributeBase o name env (eval o env)
      standAt apos.atName
      let (f, first) ← holding [ov] (getMethod ov name (do return (← importBound o env).getD true))
      callWith pos f first (backTo pos (starEach [e] env)) []) := by
  have hf : methodCallForm ([e].length + ([] : List Keyword).length) (backTo pos (starEach [e] env)) (backToKw pos (keywordEach [] env)) = true := by rw [hs]; rfl
  have hp : methodCallPos true o env apos pos = pure pos := by unfold methodCallPos; simp [hl]
  rw [arm_eval_Call]
  congr 1
  funext ov
  congr 1
  funext _
  unfold methodCall calleeOf
  rw [hf]
  simp only [if_true, hp, pure_bind]
  rfl
theorem in_but {K : Frag} {h h' : Heap} {x : Addr} (X : K.In h) (hx : K.lookup x = none) (k : ∀ b o, b ≠ x → h.get? b = some o → h'.get? b = some o) : K.In h' := fun a o e => by
  have ne : a ≠ x := fun z => by rw [z, hx] at e; cases e
  exact k a o ne (X a o e)
section
variable {prog : Program} {w : World} {A : Around} {E : Value → Shared → Prop} {h : Heap} {g : Array GenState} {d : Drawn} {t : Nat} {os : OsState}
variable {nm q : Str} {C N : Addr} {bs bm : List Value} {hdct : Bool} {sn : List Str} {sub : List Value} {ab : Bool} {col : Option Bool} {dd : Option Addr} {k0 k1 k2 k3 k5 : Option Value}
/-- ValueError.__init__, bound to a fresh exception, is called -/
theorem call_mw {u x t0 : Addr} {rest : List Value} {Q : Value → Shared → Prop} (hC : h.get? C = some (excClassObj nm q C N bs bm hdct sn sub ab col dd k0 k1 k2 k3 k5 "ValueError.__new__"))
    (he : h.get? x = some (excO C t0)) (hu : h.get? u = some (kxs_mw "ValueError.__init__" x)) (hz : rest.length ≤ sizeLine) (hq : ∀ h', (∀ b o, b ≠ x → h.get? b = some o → h'.get? b = some o) → h'.get? x = some (excO C h.objs.size) → Q .none ⟨h', g, d, t, os⟩) :
    wpAny (model prog w) A (call (.ref u) rest) Q E ⟨h, g, d, t, os⟩ := by
  have FB := F.excBase_ValueError
  refine wpAny_call (codeAny_of_tree ?_)
  show wpAny _ (A.in1) (callAny (.ref u) { pos := rest, kw := [] }) _ _ _
  simp only [callAny]
  refine wpAny_bind (wpAny_load hu ?_)
  have e1 : (Value.type "method-wrapper" == Value.type "method" || Value.type "method-wrapper" == Value.type "builtin_function_or_method" || Value.type "method-wrapper" == Value.type "method-wrapper") = true := by decide
  simp only [kxs_mw, e1, if_true]
  refine KFB.if_so (by decide) (wpAny_bind (check_bound_init FB.toExcCallFacts hC he rfl ?_))
  refine wpAny_bind (wpAny_pure (wpAny_pure ⟨plainId_quiet FB.init.plain _, codeAny_builtin FB.initEntry ?_⟩))
  exact exc_init_tree (cls := .ref C) (t0 := t0) (dv := none) (c2 := .none) (c3 := .none) (b4 := .bool false) he hz fun h' k e _ => hq h' k e
end
section
variable {prog : Program} {w : World} {A : Around} {E : Value → Shared → Prop} {R : Result → Shared → Prop} {s : Shared} {K : Frag} {mg mb : Str → Option Value} {C D fI : Addr}
theorem own_init (T : InitTxt prog K D fI) (TC : ClsTxt K D C fI) {x t0 : Addr} {v : Value} (X : K.In s.heap) (hlim : s.heap.NoLimit) (hg : s.heap.Ns mainGlobals mg) (hgs : mg "super" = none) (hb : s.heap.Ns builtinsNs mb) (hbb : mb "super" = some (.type "super"))
    (hx : s.heap.get? x = some (PySem.HandSPX.excO C t0)) (hnx : K.lookup x = none) (hroom : A.depth < recursionLimit)
    (hq : ∀ h' tk dx t1, InitEnd s.heap h' x C dx t1 v → R (.ok (.ret .none)) { s with heap := h', toks := tk }) :
    codeAny (model prog w) A (.call (.ref fI) ⟨[.ref x, v], []⟩) R s := by
  obtain ⟨oc, od, doc, pm, an, cda, cc, ct, osl, p1, p2, q, qual, ccl, cl, cdd, cld, ccs, csl, vs, file, tf, ho, hcd, hco, hvs, hfile, hcell, hline⟩ := T.fn
  obtain ⟨nm, q', N, bs, bm, sn, sub, ab, col, dd, k0, k1, k2, k3, k5, hC, hbm⟩ := TC.cls
  have hcl : clsIn K C = some { name := nm, bases := bs, mro := .ref C :: bm, ns := N, qualname := q', hasDict := true, slotNames := sn, subclasses := sub, abstract := ab, collection := col, hasDel := false } := by unfold clsIn; rw [hC] <;> rfl
  obtain ⟨cdD, hD⟩ := T.cls
  refine ks_codeAny_call_defAt (fd := ksFn "__init__" qual (iA p1 p2) (iB q) iS .none .none doc pm an (.ref cda) ct cc) (body := iB q) (binds := [("self", .ref x), ("value", v)]) hroom (X _ _ ho) rfl hlim (codeRec_of X hcd) rfl
    (BindsTo.of_eq (by first | rfl | with_unfolding_all rfl)) (show ∀ y ∈ iS.names, y.2 ≠ .cell by decide) (fun y hy => by
      rcases List.mem_cons.mp hy with rfl | hy
      · rfl
      · rw [List.mem_singleton.mp hy]; rfl) (fun h₁ hns k => ?_)
  have X₁ : K.In h₁ := X.keeps k
  have hx₁ := k _ _ hx
  show _root_.PySem.wpAt _ _ _ (execs (iB q) _) _ _ _
  refine ks_wpAt_execs_cons (ks_wpAt_Expr_any (ks_wpAt_MethodCall (he := sup_eval hline rfl) ?_))
  refine ks_wpAt_super_base (by rfl) (by rfl) (by decide) rfl (X₁ _ _ ho) rfl rfl rfl (X₁ _ _ hco) rfl hvs hfile T.top ?_
  obtain ⟨oD, hD1, hD2⟩ : ∃ oD, h₁.get? D = some oD ∧ oD.data = .cls cdD := by
    unfold clsIn at hD
    split at hD
    · rename_i c d cd' sl ho
      cases hD
      exact ⟨_, X₁ _ _ ho, rfl⟩
    · cases hD
  obtain ⟨hp, g, dr, tk, os⟩ := s
  refine ks_loadName_global (by rfl) (by rfl) (loadGlobal_builtin (hg.keeps k) hgs (hb.keeps k) hbb ⟨rfl, ?_⟩)
  refine wpAny_loadName_free (by rfl) (by rfl) rfl ⟨_, X₁ _ _ hcell, rfl⟩ ?_
  refine wpAny_loadName_local (v := .ref x) (by rfl) (by rfl) hns (by first | rfl | with_unfolding_all rfl | kernel_rfl) ?_
  refine ks_wpAny_isType_cls hD1 hD2 ⟨rfl, ?_⟩
  refine ks_wpAny_call_super hD1 hD2 hx₁ rfl (fun c e => nomatch e) (looks_mroIn X₁ TC.sD) (fun h₂ e₂ k₂ => ?_)
  have X₂ : K.In h₂ := X₁.keeps k₂
  have hx₂ := k₂ _ _ hx₁
  have I₂ : InstAt h₂ x (excO C t0) C none := ⟨hx₂, rfl, rfl, trivial⟩
  have hm : alongIn K "__init__" (((.ref C :: bm).dropWhile (· != .ref D)).drop 1) = some (some (.builtin "ValueError.__init__")) := by
    have z := TC.sup
    unfold ks_superIn at z
    rw [hcl] at z
    exact z
  refine kxs_getMethod kxs_ValueError e₂ (looks_opaque X₂ T.any) (l₀ := .ref C :: bm) ?_ rfl X₂ hm (I₂.type.andThen (looks_subIn X₂ TC.veC)) (ks_ne X₂ I₂ hcl) (by decide) ?_
  · exact fun A Q E s k q => wpAny_bind ((looks_clsIn X₂ hcl) A _ E s k (wpAny_pure q))
  have k₃ : ∀ b o, h₂.get? b = some o → (h₂.push (kxs_mw "ValueError.__init__" x)).get? b = some o := fun b o e => Heap.get?_push_of_some _ e
  have hu : (h₂.push (kxs_mw "ValueError.__init__" x)).get? h₂.objs.size = some (kxs_mw "ValueError.__init__" x) := Heap.get?_push_at rfl rfl
  have X₃ : K.In (h₂.push (kxs_mw "ValueError.__init__" x)) := X₂.keeps k₃
  have xL : hp.objs.size ≠ x := Nat.ne_of_gt (Heap.lt_size hx)
  have ns₃ : (h₂.push (kxs_mw "ValueError.__init__" x)).Ns hp.objs.size (fun y => ([("self", Value.ref x), ("value", v)] : List (Str × Value)).reverse.lookup y) := (hns.keeps k₂).keeps k₃
  refine kxs_callWith (i := "ValueError.__init__") (x := x) rfl (evalArgs_plain ?_)
  show wpAny _ _ (spliced ((false, eval (.Name "value" (q 3)) _) :: backTo (q 4) (starEach [] _))) _ _ _
  refine Calls.spliced_cons (wpAny_Name (wpAny_loadName_local (v := v) (by rfl) (by rfl) ns₃ (by first | rfl | with_unfolding_all rfl | kernel_rfl) ?_) (by decide))
  refine Calls.spliced_nil ⟨hu, ?_⟩
  refine call_mw (X₃ _ _ hC) (k₃ _ _ hx₂) hu (one_size v) (fun h₄ k₄ hx₄ => ?_)
  have X₄ : K.In h₄ := in_but X₃ hnx k₄
  have ns₄ : h₄.Ns hp.objs.size (fun y => ([("self", Value.ref x), ("value", v)] : List (Str × Value)).reverse.lookup y) := by
    obtain ⟨o, es, ep, e, r⟩ := ns₃
    exact ⟨o, es, ep, k₄ _ _ xL e, r⟩
  refine wpAt_of_wpAny (wpAny_execs_cons (plainObj_wpAny_Assign_Attribute ?_))
  refine wpAny_Name (wpAny_loadName_local (v := v) (by rfl) (by rfl) ns₄ (by first | rfl | with_unfolding_all rfl | kernel_rfl) ?_) (by decide)
  refine wpAny_Name (wpAny_loadName_local (v := .ref x) (by rfl) (by rfl) ns₄ (by first | rfl | with_unfolding_all rfl | kernel_rfl) ?_) (by decide)
  refine set_plain X₄ (ox := excO C (h₂.push (kxs_mw "ValueError.__init__" x)).objs.size) (od := none) ⟨hx₄, rfl, rfl, trivial⟩ TC.sa ?_
  refine exc_osa X₄ hx₄ hcl (show PySem.HandSPX.refsVE (.ref C :: bm) = true from hbm) rfl TC.noN (fun h₅ tk₅ dx k₅ dn dne hx₅ hn₅ => ?_)
  have z : hp.objs.size < h₄.objs.size := ns₄.lt
  have old : ∀ b o, b ≠ x → hp.get? b = some o → h₅.get? b = some o := fun b o hb e => k₅ b o hb (k₄ b o hb (k₃ b o (k₂ b o (k b o e))))
  show wpAny _ _ (execs [] _) _ _ _
  exact wpAny_execs_nil (hq h₅ tk₅ dx _ ⟨old, hx₅, Nat.le_of_lt (Nat.lt_of_lt_of_le z dn), dne, hn₅⟩)
end
end Own
set_option Elab.async false
set_option maxRecDepth 100000
set_option linter.unusedVariables false
/-! E2: the class called: a new exception. -/
namespace Own
open PySem PySem.W PySem.Calls PyProof.Rows PySem.HandSPX
/-- a made exception -/
structure OwnMade (h h' : Heap) (e C d : Addr) (v : Value) : Prop where
  keep : ∀ b o, h.get? b = some o → h'.get? b = some o
  new : h.objs.size ≤ e
  obj : ∃ oe vs, h'.get? e = some oe ∧ oe.cls = .ref C ∧ oe.dict = some d ∧ oe.data = .fields vs ∧ vs[1]? = some .none
  dbig : h.objs.size ≤ d
  dne : d ≠ e
  ns : h'.Ns1 d (fun y => if y = "value" then some v else none)
section
variable {prog : Program} {w : World} {A : Around} {E : Value → Shared → Prop} {R : Result → Shared → Prop} {s : Shared} {K : Frag} {mg mb : Str → Option Value} {C D fI : Addr}
theorem own_made (T : InitTxt prog K D fI) (TC : ClsTxt K D C fI) {v : Value} (X : K.In s.heap) (hlim : s.heap.NoLimit) (hg : s.heap.Ns mainGlobals mg) (hgs : mg "super" = none) (hb : s.heap.Ns builtinsNs mb) (hbb : mb "super" = some (.type "super"))
    (hroom : A.depth + 1 < recursionLimit) (hq : ∀ h' tk e d, OwnMade s.heap h' e C d v → R (.ok (.ret (.ref e))) { s with heap := h', toks := tk }) : codeAny (model prog w) A (.call (.ref C) ⟨[v], []⟩) R s := by
  obtain ⟨nm, q, N, bs, bm, sn, sub, ab, col, dd, k0, k1, k2, k3, k5, hC, hbm⟩ := TC.cls
  obtain ⟨hp, g, dr, tk, os⟩ := s
  let h₂ : Heap := (hp.push (kdv_tup [v])).push (excO C hp.objs.size)
  have up : ∀ b o, hp.get? b = some o → h₂.get? b = some o := fun b o e => Heap.get?_push_of_some _ (Heap.get?_push_of_some _ e)
  have at_ : h₂.get? (hp.objs.size + 1) = some (excO C hp.objs.size) := by
    show ((hp.push (kdv_tup [v])).push (excO C hp.objs.size)).get? (hp.objs.size + 1) = _
    heap_get
  have notK : K.lookup (hp.objs.size + 1) = none := by
    cases e : K.lookup (hp.objs.size + 1) with
    | none => rfl
    | some o =>
      have z : hp.get? (hp.objs.size + 1) = some o := X _ _ e
      exact absurd (Nat.lt_trans (Nat.lt_succ_self _) (Heap.lt_size z)) (Nat.lt_irrefl _)
  refine call_own F.excBase_ValueError (fun Y => refsVE_contains Y bm hbm) (X _ _ hC) (looks_findIn X TC.iC) (fun self => bind_fn X self TC.tC) (one_size v) ?_
  refine own_init (s := ⟨h₂, g, dr, tk, os⟩) T TC (X.keeps up) (hlim.keeps up) (hg.keeps up) hgs (hb.keeps up) hbb at_ notK hroom fun h' tk' dx t1 M => ?_
  have old : ∀ b o, hp.get? b = some o → h'.get? b = some o := fun b o e => M.keep b o (Nat.ne_of_lt (Nat.lt_succ_of_lt (Heap.lt_size e))) (up b o e)
  have big : hp.objs.size + 1 + 1 ≤ dx := by
    have q := M.dbig
    simp only [h₂, Heap.size_push] at q
    exact q
  exact ⟨rfl, hq h' tk' (hp.objs.size + 1) dx { keep := old, new := Nat.le_succ _, obj := ⟨_, _, M.obj, rfl, rfl, rfl, rfl⟩, dbig := Nat.le_trans (Nat.le_trans (Nat.le_succ _) (Nat.le_succ _)) big, dne := M.dne, ns := M.ns }⟩
end
end Own
namespace Pv
open PySem PySem.Spec PyProof.Rows L2
theorem relO_value {v : V} {v' : Value} (r : RelV v v') (f : Str) : RelO (List.lookup f [(("value" : Str), v)]) (if f = "value" then some v' else none) := by
  by_cases hw : f = "value"
  · subst hw
    have q : List.lookup ("value" : Str) [(("value" : Str), v)] = some v := by simp [List.lookup]
    rw [if_pos rfl, q]
    exact r
  · have qw : (f == ("value" : Str)) = false := by simpa using hw
    have q : List.lookup f [(("value" : Str), v)] = none := by simp [List.lookup, qw]
    rw [if_neg hw, q]
    trivial
theorem mk_ok {P : Program} {w : World} {K : PySem.W.Frag} {mg : Str → Option Value} {base : Heap} {x : Str} {C D fI : Addr} (T : Own.InitTxt P K D fI) (TC : Own.ClsTxt K D C fI) (gC : mg x = some (.ref C)) (hgs : mg "super" = none) : MkOk P w K mg base x C := by
  intro X e te p pos x1 x2 x3 x4 x5 hr hgl hdb he hs
  subst x1 x2 x3 x4 x5
  intro pins s σ H Q I h
  refine wpAny_Call_Name_kw (ld_glob I hgl gC ?_ hdb)
  refine PySem.W.callWith_K (h₀ := X.base) I.ok.mod.kin TC.kC ?_ (hs _ _) (by rfl)
  rw [hs]
  show wpAny _ _ (spliced ((false, eval e X.env) :: backTo pos (starEach [] X.env))) _ _ s
  refine Calls.spliced_cons (thn (he.run pins s σ H _ I h) fun u s1 hu => ?_)
  obtain ⟨v, H1, I1, rv, q1⟩ := hu
  refine Calls.spliced_nil ⟨I1.kIn, ?_⟩
  show wpAny _ _ (call (.ref C) [u]) _ _ _
  obtain ⟨mb, hb, hbb⟩ := I1.mod.blt
  have hbs : mb "super" = some (.type "super") := (hbb _ (by decide +kernel)).trans (by rfl)
  have lim := I1.nolimit
  have hg := I1.mod.glob.keeps I1.bk
  have hb' := hb.keeps I1.bk
  have kin := I1.kIn
  obtain ⟨hp, g, dr, tk, os⟩ := s1
  refine wpAny_call (Own.own_made T TC kin lim hg hgs hb' hbs (by have := hr.dp; omega) fun h' tk' a d M => ?_)
  show MkP X pins σ Q (.ref a) ⟨h', g, dr, tk', os⟩
  obtain ⟨oe, fv, hoe, hc, hd, hdat, h1⟩ := M.obj
  obtain ⟨Gh, g1, g2⟩ := restrict h' fun b => decide (b ≠ a)
  have same : ∀ b, b ≠ a → Gh.get? b = h'.get? b := fun b hb => g1 b (decide_eq_true hb)
  have gone : Gh.get? a = none := g2 a (by simp)
  have old : ∀ b o, hp.get? b = some o → Gh.get? b = some o := fun b o q => by
    have nb : b ≠ a := Nat.ne_of_lt (Nat.lt_of_lt_of_le (Heap.lt_size q) M.new)
    rw [same b nb]
    exact M.keep b o q
  have ob : ObjOk X.prog X.w (upd H1 d (.xd [(("value" : Str), v)])) Gh d (.xd [(("value" : Str), v)]) :=
    ⟨_, M.ns.at (fun o q => (same d M.dne).trans q), fun f => relO_value rv f⟩
  have J : Inv X pins σ (upd H1 d (.xd [(("value" : Str), v)])) ⟨Gh, g, dr, tk', os⟩ := I1.laid (t' := tk') old M.dbig ob
  have back : ∀ b o, Gh.get? b = some o → h'.get? b = some o := fun b o q => by
    by_cases hb : b = a
    · rw [hb, gone] at q; cases q
    · exact (same b hb).symm.trans q
  have na : upd H1 d (.xd [(("value" : Str), v)]) a = none := by
    rw [upd_ne (Ne.symm M.dne)]
    exact I1.hok.fresh M.new
  exact ⟨a, oe, fv, ⟨Gh, g, dr, tk', os⟩, _, .ref C, some d, rfl, J, back, gone, hoe, ⟨hc, hd⟩, hdat, h1, na, rfl, I1.bare, raises_own TC.exC TC.tyC, q1 d (I1.hok.fresh M.dbig)⟩
end Pv
set_option Elab.async false
set_option maxRecDepth 100000
set_option linter.unusedVariables false
/-! Pv20: the classes of the exceptions, from what the top has written. -/
namespace Pv
open PySem PySem.Spec PyProof.Rows L2
abbrev veTail : List Value := [.type "ValueError", .type "Exception", .type "BaseException", .type "object"]
/-- what is asked of a class C below D -/
structure ClsF (K : PySem.W.Frag) (D C fI : Addr) : Prop where
  t : Own.ClsTxt K D C fI
  oc : PySem.W.findIn K (.ref C) "__class__" = some (some (.builtin "object.__class__"))
  mo : PySem.W.mroIn K C (.type "object") = some true
theorem cls_mk {K : PySem.W.Frag} {D C fI N : Addr} {nm q : Str} {bs bm : List Value} {sn : List Str} {sub : List Value} {ab : Bool} {col : Option Bool} {dd : Option Addr} {k0 k1 k2 k3 k5 : Option Value}
    (x : K.lookup C = some (excClassObj nm q C N bs bm true sn sub ab col dd k0 k1 k2 k3 k5 "ValueError.__new__")) (r : PySem.HandSPX.refsVE bm = true)
    (sa : PySem.W.findIn K (.ref C) "__setattr__" = some (some (.builtin "object.__setattr__"))) (ga : PySem.W.findIn K (.ref C) "__getattribute__" = some (some (.builtin "BaseException.__getattribute__"))) (gg : PySem.W.findIn K (.ref C) "__getattr__" = some none)
    (no : PySem.W.findIn K (.ref C) "value" = some none) (iC : PySem.W.findIn K (.ref C) "__init__" = some (some (.ref fI))) (tC : PySem.W.typeIn K (.ref fI) = some (.type "function")) (kC : PySem.W.keepIn K (.ref C) = true) (eb : PySem.W.subIn K (.ref C) (.type "BaseException") = some true)
    (ev : PySem.W.subIn K (.ref C) (.type "ValueError") = some true) (ty : PySem.W.typeIn K (.ref C) = some (.type "type")) (hd : PySem.W.hasDictIn K C = true) (sd : PySem.W.mroIn K C (.ref D) = some true) (su : PySem.W.ks_superIn K C D "__init__" = some (some (.builtin "ValueError.__init__")))
    (oc : PySem.W.findIn K (.ref C) "__class__" = some (some (.builtin "object.__class__"))) (mo : PySem.W.mroIn K C (.type "object") = some true) : ClsF K D C fI :=
  ⟨⟨⟨nm, q, N, bs, bm, sn, sub, ab, col, dd, k0, k1, k2, k3, k5, x, r⟩, sa, ga, gg, no, iC, tC, kC, eb, ev, ty, hd, sd, su⟩, oc, mo⟩
theorem ClsF.isCls {K : PySem.W.Frag} {D C fI : Addr} (c : ClsF K D C fI) : ((PySem.W.clsIn K C).isSome && PySem.W.typeIn K (.ref C) == some (.type "type")) = true := by
  obtain ⟨nm, q, N, bs, bm, sn, sub, ab, col, dd, k0, k1, k2, k3, k5, x, r⟩ := c.t.cls
  have e : (PySem.W.clsIn K C).isSome = true := by unfold PySem.W.clsIn; rw [x] <;> rfl
  rw [e, c.t.tyC] <;> rfl
/-- one below another, or not -/
theorem sub_two {K : PySem.W.Frag} {D C C' fI : Addr} (c : ClsF K D C fI) {b : Bool} (h : PySem.W.subIn K (.ref C') (.ref C) = some b) (hr : C' = C → b = true) :
    PySem.W.exmOne K (.ref C') (.ref C) = some b ∧ PySem.W.kitOne K (.ref C') (.ref C) = some b := by
  have e1 : (PySem.W.subIn K (.ref C) (.type "BaseException") == some true) = true := by rw [c.t.exC] <;> rfl
  have e2 : PySem.W.kitCls K (.ref C') (.ref C) = some b := by
    show (if ((PySem.W.clsIn K C).isSome && PySem.W.typeIn K (.ref C) == some (.type "type")) = true then PySem.W.subIn K (.ref C') (.ref C) else none) = some b
    rw [if_pos c.isCls]; exact h
  refine ⟨?_, ?_⟩
  · show (if (PySem.W.subIn K (.ref C) (.type "BaseException") == some true) = true then PySem.W.kitCls K (.ref C') (.ref C) else none) = some b
    rw [if_pos e1]; exact e2
  · show (if ((Value.ref C') == (Value.ref C)) = true then some true else PySem.W.kitCls K (.ref C') (.ref C)) = some b
    by_cases hc : ((Value.ref C') == (Value.ref C)) = true
    · rw [if_pos hc, hr (by simpa using hc)]
    · rw [if_neg hc]; exact e2
theorem exc_ok {g : Stat} {P : Program} {w : World} {K : PySem.W.Frag} {mg : Str → Option Value} {D fI : Addr} (Cs : List Addr) (T : Own.InitTxt P K D fI) (gs : mg "super" = none) (hn : PySem.W.specialIn K (.builtin "object.__class__") "__get__" = some (some (.builtin "getset_descriptor.__get__"))) (ht : PySem.W.takesIn K (.builtin "object.__class__") = some true)
    (TC : ∀ C ∈ Cs, ClsF K D C fI) (gC : ∀ x k, g.cn x = some k → ∃ C, Cs[k]? = some C ∧ mg x = some (.ref C))
    (hsub : ∀ k k' C C', Cs[k]? = some C → Cs[k']? = some C' → PySem.W.subIn K (.ref C') (.ref C) = some ((g.sb k).contains k') ∧ (C' = C → (g.sb k).contains k' = true)) (base : Heap) : ExcOk g P w K mg base (fun k => Cs[k]?) where
  made := fun x k h => by
    obtain ⟨C, h1, h2⟩ := gC x k h
    exact ⟨C, h2, h1, mk_ok T (TC C (List.mem_of_getElem? h1)).t h2 gs⟩
  sub := fun k k' C C' h1 h2 => by
    obtain ⟨h3, h4⟩ := hsub k k' C C' h1 h2
    exact sub_two (TC C (List.mem_of_getElem? h1)) h3 h4
  ve := fun k C h => by
    have c := (TC C (List.mem_of_getElem? h)).t
    show (if ((Value.ref C) == (Value.type "ValueError")) = true then some true else (if PySem.W.kitMeta "ValueError" = true then PySem.W.subIn K (.ref C) (.type "ValueError") else none)) = some true
    have e1 : PySem.W.kitMeta "ValueError" = true := by first | rfl | decide +kernel
    rw [if_neg (by simp), if_pos e1]
    exact c.veC
  cls := fun k C h => by
    have c := TC C (List.mem_of_getElem? h)
    exact ⟨⟨c.t.ga, c.t.gg, c.t.exC, c.t.hdC, c.oc, hn, ht, c.mo⟩, ⟨c.t.ga, c.t.gg, c.t.exC, c.t.hdC⟩, c.t.noN⟩
theorem along_ve (K : PySem.W.Frag) : PySem.W.alongIn K "__init__" veTail = some (some (.builtin "ValueError.__init__")) := by kernel_rfl
section
variable {K : PySem.W.Frag} {D C N : Addr} {nm q : Str} {bs : List Value} {sn : List Str} {sub : List Value} {ab : Bool} {col : Option Bool} {dd : Option Addr} {k0 k1 k2 k3 k5 : Option Value}
theorem su_mk0 (x : K.lookup C = some (excClassObj nm q C N bs veTail true sn sub ab col dd k0 k1 k2 k3 k5 "ValueError.__new__")) : PySem.W.ks_superIn K C C "__init__" = some (some (.builtin "ValueError.__init__")) := by
  have e : PySem.W.clsIn K C = some { name := nm, bases := bs, mro := .ref C :: veTail, ns := N, qualname := q, hasDict := true, slotNames := sn, subclasses := sub, abstract := ab, collection := col, hasDel := false } := by unfold PySem.W.clsIn; rw [x] <;> rfl
  unfold PySem.W.ks_superIn
  rw [e, Option.bind_some]
  have d : (((Value.ref C :: veTail).dropWhile (· != .ref C)).drop 1) = veTail := ESX.drop_own C veTail
  show PySem.W.alongIn K "__init__" (((Value.ref C :: veTail).dropWhile (· != .ref C)).drop 1) = _
  rw [d]
  exact along_ve K
theorem su_mk1 (x : K.lookup C = some (excClassObj nm q C N bs (.ref D :: veTail) true sn sub ab col dd k0 k1 k2 k3 k5 "ValueError.__new__")) (ne : D ≠ C) : PySem.W.ks_superIn K C D "__init__" = some (some (.builtin "ValueError.__init__")) := by
  have e : PySem.W.clsIn K C = some { name := nm, bases := bs, mro := .ref C :: .ref D :: veTail, ns := N, qualname := q, hasDict := true, slotNames := sn, subclasses := sub, abstract := ab, collection := col, hasDel := false } := by unfold PySem.W.clsIn; rw [x] <;> rfl
  unfold PySem.W.ks_superIn
  rw [e, Option.bind_some]
  have h1 : (Value.ref C != Value.ref D) = true := by simp [Ne.symm ne]
  have d : (((Value.ref C :: .ref D :: veTail).dropWhile (· != .ref D)).drop 1) = veTail := by
    rw [List.dropWhile_cons, if_pos h1]
    exact ESX.drop_own D veTail
  show PySem.W.alongIn K "__init__" (((Value.ref C :: .ref D :: veTail).dropWhile (· != .ref D)).drop 1) = _
  rw [d]
  exact along_ve K
end
end Pv
set_option Elab.async false
set_option maxRecDepth 100000
set_option linter.unusedVariables false
/-! N0: how the expressions compute. -/
namespace Pv
open PySem L2
section
variable {a b : Int} {x y : PyData} {xs ys : List PyData} {s t : Str} {p q : Bool}
@[simp] theorem biD_len_l : biD .len [.list xs] = some (.int xs.length) := rfl
@[simp] theorem biD_len_t : biD .len [.tuple xs] = some (.int xs.length) := rfl
@[simp] theorem biD_abs : biD .abs [.int a] = some (.int (if a < 0 then -a else a)) := rfl
@[simp] theorem biD_int_i : biD .int [.int a] = some (.int a) := rfl
@[simp] theorem biD_int_b : biD .int [.bool p] = some (.int (bI p)) := rfl
@[simp] theorem biD_max : biD .max [.int a, .int b] = some (.int (if b > a then b else a)) := rfl
@[simp] theorem biD_min : biD .min [.int a, .int b] = some (.int (if b < a then b else a)) := rfl
@[simp] theorem biD_sum : biD .sum [.list xs] = (asInts xs).map fun ns => .int ns.sum := rfl
@[simp] theorem biD_all : biD .all [.list xs] = (asBools xs).map fun bs => .bool (bs.all id) := rfl
@[simp] theorem biD_any : biD .any [.list xs] = (asBools xs).map fun bs => .bool (bs.any id) := rfl
@[simp] theorem biD_isInt_i : biD .isInt [.int a] = some (.bool true) := rfl
@[simp] theorem biD_isInt_b : biD .isInt [.bool p] = some (.bool true) := rfl
@[simp] theorem biD_isInt_t : biD .isInt [.tuple xs] = some (.bool false) := rfl
@[simp] theorem biD_isInt_l : biD .isInt [.list xs] = some (.bool false) := rfl
@[simp] theorem biD_isInt_n : biD .isInt [.none] = some (.bool false) := rfl
@[simp] theorem biD_isBool_b : biD .isBool [.bool p] = some (.bool true) := rfl
@[simp] theorem biD_isBool_i : biD .isBool [.int a] = some (.bool false) := rfl
@[simp] theorem biD_isTup_t : biD .isTup [.tuple xs] = some (.bool true) := rfl
@[simp] theorem biD_isTup_i : biD .isTup [.int a] = some (.bool false) := rfl
@[simp] theorem biD_repr : biD .repr [x] = if reprOk x then some (.str x.shown) else none := by cases x <;> rfl
@[simp] theorem biD_gcd : biD .gcd [.int a, .int b] = some (.int ((Nat.gcd a.natAbs b.natAbs : Nat) : Int)) := rfl
@[simp] theorem biD_isqrt : biD .isqrt [.int a] = if 0 ≤ a ∧ a.natAbs.log2 < 13000 then some (.int ((Float64.isqrt a.toNat : Nat) : Int)) else none := rfl
@[simp] theorem biD_listRange : biD .listRange [.int a] = if a.natAbs ≤ 10000000 then some (.list (rngD a.toNat)) else none := rfl
@[simp] theorem binD_add : binD .add (.int a) (.int b) = some (.int (a + b)) := rfl
@[simp] theorem binD_add_b : binD .add (.int a) (.bool p) = some (.int (a + bI p)) := rfl
@[simp] theorem binD_sub : binD .sub (.int a) (.int b) = some (.int (a - b)) := rfl
@[simp] theorem binD_sub_b : binD .sub (.int a) (.bool p) = some (.int (a - bI p)) := rfl
@[simp] theorem binD_sub_bb : binD .sub (.bool p) (.bool q) = some (.int (bI p - bI q)) := rfl
@[simp] theorem binD_mul : binD .mul (.int a) (.int b) = if mulOk a b then some (.int (a * b)) else none := rfl
@[simp] theorem binD_fdiv : binD .fdiv (.int a) (.int b) = if divOk b then some (.int (a.fdiv b)) else none := rfl
@[simp] theorem binD_mod : binD .mod (.int a) (.int b) = if b ≠ 0 then some (.int (a.fmod b)) else none := rfl
@[simp] theorem binD_pow : binD .pow (.int a) (.int b) = if powOk a b then some (.int (a ^ b.toNat)) else none := rfl
@[simp] theorem cmpD_lt : cmpD .lt (.int a) (.int b) = some (decide (a < b)) := rfl
@[simp] theorem cmpD_le : cmpD .le (.int a) (.int b) = some (decide (a ≤ b)) := rfl
@[simp] theorem cmpD_gt : cmpD .gt (.int a) (.int b) = some (decide (b < a)) := rfl
@[simp] theorem cmpD_ge : cmpD .ge (.int a) (.int b) = some (decide (b ≤ a)) := rfl
@[simp] theorem cmpD_isN : cmpD .isN x .none = some (isNone x) := by cases x <;> rfl
@[simp] theorem cmpD_notN : cmpD .notN x .none = some (!isNone x) := by cases x <;> rfl
@[simp] theorem cmpD_eq_s : cmpD .eq (.str s) (.str t) = some (decide (s = t)) := rfl
@[simp] theorem cmpD_ne_s : cmpD .ne (.str s) (.str t) = some (!decide (s = t)) := rfl
@[simp] theorem cmpD_eq_i : cmpD .eq (.int a) (.int b) = some (decide (a = b)) := by
  show (if flatD (.int a) && flatD (.int b) then some (PyData.eqv (.int a) (.int b)) else none) = _
  rfl
@[simp] theorem cmpD_ne_i : cmpD .ne (.int a) (.int b) = some (!decide (a = b)) := rfl
@[simp] theorem cmpD_eq_b : cmpD .eq (.bool p) (.bool q) = some (decide (p = q)) := by cases p <;> cases q <;> rfl
@[simp] theorem truthD_b : truthD (.bool p) = some p := rfl
@[simp] theorem truthD_i : truthD (.int a) = some (a != 0) := rfl
@[simp] theorem truthD_n : truthD .none = some false := rfl
@[simp] theorem truthD_l : truthD (.list xs) = some (!xs.isEmpty) := rfl
@[simp] theorem truthD_t : truthD (.tuple xs) = some (!xs.isEmpty) := rfl
@[simp] theorem ixD_t : ixD (.tuple xs) (.int a) = atI xs a := rfl
@[simp] theorem ixD_l : ixD (.list xs) (.int a) = atI xs a := rfl
@[simp] theorem isNone_t : isNone (.tuple xs) = false := rfl
@[simp] theorem isNone_n : isNone .none = true := rfl
@[simp] theorem rd_d {S : Sto} : rd S (.d x) = some x := rfl
@[simp] theorem rds_nil {S : Sto} : rds S [] = some [] := rfl
@[simp] theorem rds_cons {S : Sto} {v : A} {r : List A} : rds S (v :: r) = (rd S v).bind fun x => (rds S r).map (x :: ·) := rfl
@[simp] theorem datas_nil : datas [] = some [] := rfl
@[simp] theorem datas_d {r : List A} : datas (.d x :: r) = (datas r).map (x :: ·) := rfl
@[simp] theorem asInts_nil : asInts [] = some [] := rfl
@[simp] theorem asInts_cons : asInts (.int a :: xs) = (asInts xs).map (a :: ·) := rfl
@[simp] theorem asBools_nil : asBools [] = some [] := rfl
@[simp] theorem asBools_cons : asBools (.bool p :: xs) = (asBools xs).map (p :: ·) := rfl
@[simp] theorem setAll_nil {σ : En} : setAll [] [] σ = some σ := rfl
@[simp] theorem setAll_cons {σ : En} {i : Nat} {is : List Nat} : setAll (i :: is) (x :: xs) σ = setAll is xs (σ.set i (some (.d x))) := rfl
@[simp] theorem setTg_n {σ : En} {i : Nat} : setTg (.n i) x σ = some (σ.set i (some (.d x))) := rfl
@[simp] theorem setTg_t {σ : En} {is : List Nat} : setTg (.t is) (.tuple xs) σ = if is.length = xs.length then setAll is xs σ else none := rfl
@[simp] theorem wipeD_nil {σ : En} : wipeD σ [] = σ := rfl
@[simp] theorem wipeD_cons {σ : En} {i : Nat} {is : List Nat} : wipeD σ (i :: is) = (wipeD σ is).set i none := rfl
@[simp] theorem itemsOf_l : itemsOf (.list xs) = some xs := rfl
@[simp] theorem itemsOf_t : itemsOf (.tuple xs) = some xs := rfl
@[simp] theorem consO_s {l : List PyData} : consO (some y) l = y :: l := rfl
@[simp] theorem consO_n {l : List PyData} : consO none l = l := rfl
@[simp] theorem lcGo_nil {f : PyData → Sto → R (Option PyData)} {S : Sto} : lcGo f [] S = .ok [] S := rfl
@[simp] theorem lcGo_cons' {f : PyData → Sto → R (Option PyData)} {S : Sto} : lcGo f (x :: xs) S = (f x S).bind fun y S1 => (lcGo f xs S1).bind fun ys S2 => .ok (consO y ys) S2 := rfl
@[simp] theorem keepD_ok' {S : Sto} : keepD (.ok (.d x) S) = .ok (some x) S := rfl
@[simp] theorem lcOne_nil {S : Sto} {e : Sto → R A} : lcOne (.ok [] S) e = (keepD (e S)).calm := rfl
@[simp] theorem calm_ok {α : Type} {v : α} {S : Sto} : (R.ok v S).calm = .ok v S := rfl
@[simp] theorem bI_t : bI true = 1 := rfl
@[simp] theorem bI_f : bI false = 0 := rfl
@[simp] theorem frz_d {S : Sto} {n : Nat} : frz S n (.d x) = some (.d x) := rfl
@[simp] theorem frz_exc {S : Sto} {n k : Nat} : frz S n (.exc k x) = some (.exc k x) := rfl
@[simp] theorem frz_tup {S : Sto} {n : Nat} {l : List A} : frz S n (.tup l) = (frzs S n l).map .tup := rfl
@[simp] theorem frzs_nil {S : Sto} {n : Nat} : frzs S n [] = some [] := rfl
@[simp] theorem frzs_cons {S : Sto} {n : Nat} {v : A} {l : List A} : frzs S n (v :: l) = (frz S n v).bind fun x => (frzs S n l).map (x :: ·) := rfl
@[simp] theorem setTgA_d {t : Tg} {σ : En} : setTgA t (.d x) σ = setTg t x σ := by cases t <;> rfl
@[simp] theorem setTgA_t {is : List Nat} {l : List A} {σ : En} : setTgA (.t is) (.tup l) σ = if is.length = l.length then setAllA is l σ else none := rfl
@[simp] theorem setAllA_nil {σ : En} : setAllA [] [] σ = some σ := rfl
@[simp] theorem setAllA_cons {i : Nat} {is : List Nat} {v : A} {l : List A} {σ : En} : setAllA (i :: is) (v :: l) σ = setAllA is l (σ.set i (some v)) := rfl
@[simp] theorem cmpA_d {S : Sto} {o : COp} : cmpA S o (.d x) (.d y) = cmpD o x y := by cases o <;> cases y <;> first | rfl | (cases x <;> rfl)
@[simp] theorem ixA_d {S : Sto} : ixA S (.d x) (.d y) = (ixD x y).map .d := by
  cases y <;> rfl
@[simp] theorem ixA_t {S : Sto} {l : List A} : ixA S (.tup l) (.d (.int a)) = atI l a := rfl
@[simp] theorem ixA_r {S : Sto} {r : Nat} : ixA S (.ref r) (.d y) = (rd S (.ref r)).bind fun x => (ixD x y).map .d := rfl
@[simp] theorem datas_tup {l r : List A} : datas (.tup l :: r) = none := rfl
@[simp] theorem datas_lam {k : Nat} {r : List A} : datas (.lam k :: r) = none := rfl
@[simp] theorem datas_exc {k : Nat} {r : List A} : datas (.exc k x :: r) = none := rfl
@[simp] theorem datas_ref {k : Nat} {r : List A} : datas (.ref k :: r) = none := rfl
@[simp] theorem take_len {S : Sto} : S.take S.length = S := List.take_length
theorem atN {l : List PyData} {n : Nat} : atI l (n : Int) = l[n]? := by
  unfold atI ixN
  rw [if_pos (by omega)]
  by_cases h : n < l.length
  · rw [if_pos (by omega)]
    simp
  · rw [if_neg (by omega), List.getElem?_eq_none (by omega)]; rfl
@[simp] theorem atI_0 {l : List PyData} : atI l 0 = l[0]? := atN (n := 0)
@[simp] theorem atI_1 {l : List PyData} : atI l 1 = l[1]? := atN (n := 1)
@[simp] theorem atI_2 {l : List PyData} : atI l 2 = l[2]? := atN (n := 2)
@[simp] theorem atI_3 {l : List PyData} : atI l 3 = l[3]? := atN (n := 3)
end
/-! ### step by step -/
def tstF (c : Cfg) (t : Ex) (σ : En) (S : Sto) : R Bool := (ev c t σ S).bind fun x S1 => R.opt S1 ((rd S1 x).bind truthD)
def bodyF (c : Cfg) (b : Ss) (σ : En) (S : Sto) : R Fl := sts c b σ S
def forF (c : Cfg) (t : Tg) (b : Ss) (y : PyData) (σ : En) (S : Sto) : R Fl := match setTg t y σ with
  | some σ' => sts c b σ' S
  | none => .no
def lcF (c : Cfg) (t : Tg) (own : List Nat) (e : Ex) (cs : Exs) (σ : En) (y : PyData) (S : Sto) : R (Option PyData) := match setTg t y (wipeD σ own) with
  | some σ' => lcOne (evs c cs σ' S) fun S1 => ev c e σ' S1
  | none => .no
section
variable {c : Cfg} {σ : En} {S : Sto} {a b d e : Ex} {o o' : BOp} {p p' : COp} {xs : Exs} {x : PyData} {i j : Nat}
@[simp] theorem ev_k : ev c (.k x) σ S = .ok (.d x) S := by first | (simp only [ev]; done) | (simp only [ev]; rfl)
@[simp] theorem ev_v : ev c (.v i) σ S = R.opt S (σ[i]?.join) := by first | (simp only [ev]; done) | (simp only [ev]; rfl)
@[simp] theorem ev_neg : ev c (.neg a) σ S = (ev c a σ S).bind fun x S1 => match x with
    | .d (.int i) => .ok (.d (.int (-i))) S1
    | _ => .no := by first | (simp only [ev]; done) | (simp only [ev]; rfl)
@[simp] theorem ev_not : ev c (.not a) σ S = (ev c a σ S).bind fun x S1 => R.opt S1 (((rd S1 x).bind truthD).map fun b => .d (.bool (!b))) := by first | (simp only [ev]; done) | (simp only [ev]; rfl)
@[simp] theorem ev_chain : ev c (.chain p p' a b d) σ S = (ev c a σ S).bind fun x S1 => (ev c b σ S1).bind fun y S2 => match x, y with
    | .d x, .d y => (match cmpD p x y with
      | some true => (ev c d σ S2).bind fun z S3 => (match z with
        | .d z => R.opt S3 ((cmpD p' y z).map fun b => .d (.bool b))
        | _ => .no)
      | some false => .ok (.d (.bool false)) S2
      | none => .no)
    | _, _ => .no := by first | (simp only [ev]; done) | (simp only [ev]; rfl)
@[simp] theorem ev_and : ev c (.and a b) σ S = (ev c a σ S).bind fun x S1 => match (rd S1 x).bind truthD with
    | some true => ev c b σ S1
    | some false => .ok x S1
    | none => .no := by first | (simp only [ev]; done) | (simp only [ev]; rfl)
@[simp] theorem ev_or : ev c (.or a b) σ S = (ev c a σ S).bind fun x S1 => match (rd S1 x).bind truthD with
    | some true => .ok x S1
    | some false => ev c b σ S1
    | none => .no := by first | (simp only [ev]; done) | (simp only [ev]; rfl)
@[simp] theorem ev_ite : ev c (.ite d a b) σ S = (ev c d σ S).bind fun x S1 => match (rd S1 x).bind truthD with
    | some true => ev c a σ S1
    | some false => ev c b σ S1
    | none => .no := by first | (simp only [ev]; done) | (simp only [ev]; rfl)
@[simp] theorem ev_lst : ev c (.lst xs) σ S = (evs c xs σ S).bind fun as S1 => R.opt S1 ((datas as).map fun ds => .d (.list ds)) := by first | (simp only [ev]; done) | (simp only [ev]; rfl)
@[simp] theorem ev_bi {f : Bi} : ev c (.bi f xs) σ S = (evs c xs σ S).bind fun as S1 => R.opt S1 ((rds S1 as).bind fun ds => (biD f ds).map .d) := by first | (simp only [ev]; done) | (simp only [ev]; rfl)
@[simp] theorem ev_bin : ev c (.bin o a b) σ S = (ev c a σ S).bind fun x S1 => (ev c b σ S1).bind fun y S2 => R.opt S2 ((rd S2 x).bind fun x => (rd S2 y).bind fun y => (binD o x y).map .d) := by first | (simp only [ev]; done) | (simp only [ev]; rfl)
@[simp] theorem ev_cmp : ev c (.cmp p a b) σ S = (ev c a σ S).bind fun x S1 => (ev c b σ S1).bind fun y S2 => R.opt S2 ((cmpA S2 p x y).map fun b => .d (.bool b)) := by first | (simp only [ev]; done) | (simp only [ev]; rfl)
@[simp] theorem ev_tup : ev c (.tup xs) σ S = (evs c xs σ S).bind fun as S1 => match datas as with
    | some ds => .ok (.d (.tuple ds)) S1
    | none => .ok (.tup as) S1 := by first | (simp only [ev]; done) | (simp only [ev]; rfl)
@[simp] theorem ev_call : ev c (.call i xs) σ S = (evs c xs σ S).bind fun as S1 => c.call (c.lam σ) i as S1 := by first | (simp only [ev]; done) | (simp only [ev]; rfl)
@[simp] theorem ev_ix : ev c (.ix a b) σ S = (ev c a σ S).bind fun x S1 => (ev c b σ S1).bind fun y S2 => R.opt S2 (ixA S2 x y) := by first | (simp only [ev]; done) | (simp only [ev]; rfl)
@[simp] theorem ev_slice {lo hi : Exs} : ev c (.slice a lo hi) σ S = (ev c a σ S).bind fun x S1 => (evs c lo σ S1).calm.bind fun l S2 => (evs c hi σ S2).calm.bind fun h S3 =>
      R.opt S3 ((rd S3 x).bind fun x => (optI l).bind fun l => (optI h).bind fun h => (sliceD x l h).map .d) := by first | (simp only [ev]; done) | (simp only [ev]; rfl)
@[simp] theorem ev_lstM : ev c (.lstM xs) σ S = (evs c xs σ S).bind fun as S1 => match datas as with
    | some ds => .ok (.ref S1.length) (S1 ++ [.lst ds])
    | none => .no := by first | (simp only [ev]; done) | (simp only [ev]; rfl)
@[simp] theorem ev_lstA : ev c (.lstA xs) σ S = (evs c xs σ S).bind fun as S1 => .ok (.ref S1.length) (S1 ++ [.lsa as]) := by first | (simp only [ev]; done) | (simp only [ev]; rfl)
@[simp] theorem ev_own : ev c (.own a) σ S = (ev c a σ S).bind fun x S1 => match x with
    | .d (.list ds) => .ok (.ref S1.length) (S1 ++ [.lst ds])
    | _ => .no := by first | (simp only [ev]; done) | (simp only [ev]; rfl)
@[simp] theorem ev_catF : ev c (.catF a b) σ S = (ev c a σ S).bind fun x S1 => (ev c b σ S1).bind fun y S2 => match x, y with
    | .ref r, .d (.list es) => (match S2[r]? with
      | some (.lst ds) => if ds.length + es.length ≤ sizeLine then .ok (.d (.list (ds ++ es))) S2 else .no
      | _ => .no)
    | _, _ => .no := by first | (simp only [ev]; done) | (simp only [ev]; rfl)
@[simp] theorem ev_mk {k t : Nat} : ev c (.mk k t j) σ S = if c.tb = some j then (match S[t]? with
    | some (.tab j') => if j' = j then .ok (.lam k) S else .no
    | _ => .no) else .no := by first | (simp only [ev]; done) | (simp only [ev]; rfl)
@[simp] theorem ev_callv : ev c (.callv a) σ S = (ev c a σ S).bind fun x S1 => match x with
    | .lam k => if (c.lam σ).l ≤ c.d then (c.lam σ).run k S1 else .no
    | _ => .no := by first | (simp only [ev]; done) | (simp only [ev]; rfl)
@[simp] theorem ev_exv : ev c (.exv a) σ S = (ev c a σ S).bind fun x S1 => match x with
    | .exc _ p => .ok (.d p) S1
    | _ => .no := by first | (simp only [ev]; done) | (simp only [ev]; rfl)
@[simp] theorem ev_isC {cs : List Nat} : ev c (.isC a cs) σ S = (ev c a σ S).bind fun x S1 => match x with
    | .exc k _ => .ok (.d (.bool (cs.contains k))) S1
    | _ => .no := by first | (simp only [ev]; done) | (simp only [ev]; rfl)
@[simp] theorem ev_isV : ev c (.isV a) σ S = (ev c a σ S).bind fun x S1 => match x with
    | .exc _ _ => .ok (.d (.bool true)) S1
    | _ => .no := by first | (simp only [ev]; done) | (simp only [ev]; rfl)
@[simp] theorem ev_lc {t : Tg} {own : List Nat} {it : Itr} : ev c (.lc t own it e xs) σ S = (evI c it σ S).bind fun ys S1 => (lcGo (lcF c.blk t own e xs σ) ys S1).bind fun ys S2 => .ok (.d (.list ys)) S2 := by first | (simp only [ev]; done) | (simp only [ev]; rfl)
@[simp] theorem evI_e : evI c (.e a) σ S = (ev c a σ S).bind fun x S1 => match x with
    | .d x => R.opt S1 (itemsOf x)
    | _ => .no := by first | (simp only [evI]; done) | (simp only [evI]; rfl)
@[simp] theorem evI_rng : evI c (.rng xs) σ S = (evs c xs σ S).bind fun as S1 => R.opt S1 (rngOf as) := by first | (simp only [evI]; done) | (simp only [evI]; rfl)
@[simp] theorem evs_nil : evs c .nil σ S = .ok [] S := by first | (simp only [evs]; done) | (simp only [evs]; rfl)
@[simp] theorem evs_cons : evs c (.cons a xs) σ S = (ev c a σ S).bind fun x S1 => (evs c xs σ S1).bind fun xs S2 => .ok (x :: xs) S2 := by first | (simp only [evs]; done) | (simp only [evs]; rfl)
variable {t it n : Ex} {u w : Ss} {z : Sm} {is : List Nat} {tg : Tg}
@[simp] theorem st_set : st c (.set i e) σ S = (ev c e σ S).bind fun x S1 => .ok (.nx (σ.set i (some x))) S1 := by first | (simp only [st]; done) | (simp only [st]; rfl)
@[simp] theorem st_par : st c (.par i j a b) σ S = (ev c a σ S).bind fun x S1 => (ev c b σ S1).bind fun y S2 => .ok (.nx ((σ.set i (some x)).set j (some y))) S2 := by first | (simp only [st]; done) | (simp only [st]; rfl)
@[simp] theorem st_par3 {l : Nat} : st c (.par3 i j l a b e) σ S = (ev c a σ S).bind fun x S1 => (ev c b σ S1).bind fun y S2 => (ev c e σ S2).bind fun z S3 => .ok (.nx (((σ.set i (some x)).set j (some y)).set l (some z))) S3 := by first | (simp only [st]; done) | (simp only [st]; rfl)
@[simp] theorem st_ret : st c (.ret e) σ S = (ev c e σ S).bind fun x S1 => .ok (.rt x) S1 := by first | (simp only [st]; done) | (simp only [st]; rfl)
@[simp] theorem st_retN : st c .retN σ S = .ok (.rt (.d .none)) S := by first | (simp only [st]; done) | (simp only [st]; rfl)
@[simp] theorem st_ife : st c (.ife t u w) σ S = (ev c t σ S).bind fun x S1 => match (rd S1 x).bind truthD with
    | some true => sts c u σ S1
    | some false => sts c w σ S1
    | none => .no := by first | (simp only [st]; done) | (simp only [st]; rfl)
@[simp] theorem st_whl : st c (.whl t u) σ S = whlGo (tstF c t) (bodyF c u) c.fuel σ S := by first | (simp only [st]; done) | (simp only [st]; rfl)
@[simp] theorem st_expr : st c (.expr e) σ S = (ev c e σ S).bind fun _ S1 => .ok (.nx σ) S1 := by first | (simp only [st]; done) | (simp only [st]; rfl)
@[simp] theorem st_unp : st c (.unp is e) σ S = (ev c e σ S).bind fun x S1 => R.opt S1 ((setTgA (.t is) x σ).map .nx) := by first | (simp only [st]; done) | (simp only [st]; rfl)
@[simp] theorem st_six : st c (.six a d e) σ S = (ev c e σ S).bind fun y S1 => (ev c a σ S1).bind fun x S2 => (ev c d σ S2).bind fun j S3 => match x, j, y with
    | .ref r, .d (.int j), .d y => (match S3[r]? with
      | some (.lst ds) => (match ixN ds.length j with
        | some n => .ok (.nx σ) (S3.set r (.lst (ds.set n y)))
        | none => .no)
      | _ => .no)
    | _, _, _ => .no := by first | (simp only [st]; done) | (simp only [st]; rfl)
@[simp] theorem st_for {it : Itr} : st c (.for_ tg it u) σ S = (evI c it σ S).bind fun ys S1 => forGo (forF c tg u) ys σ S1 := by first | (simp only [st]; done) | (simp only [st]; rfl)
def forLF (c : Cfg) (t : Tg) (b : Ss) (y : A) (σ : En) (S : Sto) : R Fl := match setTgA t y σ with
  | some σ' => sts c b σ' S
  | none => .no
@[simp] theorem st_forL : st c (.forL tg it u) σ S = (ev c it σ S).bind fun x S1 => match x with
    | .ref r => forLGo (forLF c tg u) r c.fuel 0 σ S1
    | _ => .no := by first | (simp only [st]; done) | (simp only [st]; rfl)
@[simp] theorem st_app : st c (.app a e) σ S = (ev c a σ S).bind fun x S1 => match x with
    | .ref r => if isL S1 r = true then (ev c e σ S1).bind fun y S2 => (match S2[r]? with
      | some (.lst ds) => (match y with
        | .d y => if ds.length < sizeLine then .ok (.nx σ) (S2.set r (.lst (ds ++ [y]))) else .no
        | _ => .no)
      | some (.lsa as) => if as.length < sizeLine then .ok (.nx σ) (S2.set r (.lsa (as ++ [y]))) else .no
      | _ => .no) else .no
    | _ => .no := by first | (simp only [st]; done) | (simp only [st]; rfl)
@[simp] theorem st_tryR {q : Option Nat} {cs : List Nat} : st c (.tryR q e cs i) σ S = match ev c e σ S with
    | .ok x S1 => (match q with
      | some i => .ok (.nx (σ.set i (some x))) S1
      | none => .ok (.rt x) S1)
    | .ex k p S1 => if cs.contains k then .ok (.rt (.tup [.exc k p, .d .none])) S1 else .no
    | .no => .no := by first | (simp only [st]; done) | (simp only [st]; rfl)
@[simp] theorem st_raise {k : Nat} : st c (.raise k e) σ S = if 2 ≤ c.d then (ev c e σ S).bind fun x S1 => match x with
    | .d p => .ex k p S1
    | _ => .no else .no := by first | (simp only [st]; done) | (simp only [st]; rfl)
@[simp] theorem st_pass : st c .pass σ S = .ok (.nx σ) S := by first | (simp only [st]; done) | (simp only [st]; rfl)
@[simp] theorem st_brk : st c .brk σ S = .ok (.bk σ) S := by first | (simp only [st]; done) | (simp only [st]; rfl)
@[simp] theorem st_cont : st c .cont σ S = .ok (.ct σ) S := by first | (simp only [st]; done) | (simp only [st]; rfl)
@[simp] theorem sts_nil : sts c .nil σ S = .ok (.nx σ) S := by first | (simp only [sts]; done) | (simp only [sts]; rfl)
@[simp] theorem sts_cons : sts c (.cons z u) σ S = (st c z σ S).bind fun f S1 => match f with
    | .nx σ' => sts c u σ' S1
    | f => .ok f S1 := by first | (simp only [sts]; done) | (simp only [sts]; rfl)
/-- one turn of a while -/
theorem whl_on {k : Nat} {S1 S2 : Sto} {σ' : En} (h : tstF c t σ S = .ok true S1) (hb : bodyF c u σ S1 = .ok (.nx σ') S2) : whlGo (tstF c t) (bodyF c u) (k + 1) σ S = whlGo (tstF c t) (bodyF c u) k σ' S2 := by
  rw [whlGo, h, R.bind_ok, if_pos rfl, hb, R.bind_ok]
theorem whl_off {k : Nat} {S1 : Sto} (h : tstF c t σ S = .ok false S1) : whlGo (tstF c t) (bodyF c u) (k + 1) σ S = .ok (.nx σ) S1 := by
  rw [whlGo, h, R.bind_ok, if_neg Bool.false_ne_true]
end
theorem log_of {a n : Nat} (h : a < 2 ^ n) : a.log2 ≤ n := by
  by_cases e : a = 0
  · subst e; simp
  · have := (Nat.log2_lt e).mpr h
    omega
theorem mul_ok {a b : Int} {n m : Nat} (ha : a.natAbs < 2 ^ n) (hb : b.natAbs < 2 ^ m) (h : n + m < 1000000) : mulOk a b = true := by
  unfold mulOk
  have h1 := log_of ha
  have h2 := log_of hb
  simp only [decide_eq_true_eq]; omega
theorem div_ok {b : Int} {m : Nat} (h0 : b ≠ 0) (hb : b.natAbs < 2 ^ m) (h : m < 9000) : divOk b = true := by
  unfold divOk
  have h2 := log_of hb
  simp only [h0, ne_eq, not_false_eq_true, decide_true, Bool.true_and, decide_eq_true_eq]; omega
/-- calls by their bodies -/
theorem cf_std {ds : List DefI} {ls : List LamI} {F d k : Nat} {lm : LamC} {f : Fn} {as : List A} {S : Sto} (h : tabT ds k = some f) (hm : f.md = .std) (hl : as.length = f.np) : callF (tabT ds) (lamT ls) F (d + 1) lm k as S = outOf S.length (sts ⟨callF (tabT ds) (lamT ls) F d, fun _ => lm, F, d, none⟩ f.body (Pv.start f.nn as) S) := by
  simp only [callF, h, hl, if_true, hm]
theorem cf_keep {ds : List DefI} {ls : List LamI} {F d k : Nat} {lm : LamC} {f : Fn} {as : List A} {S : Sto} (h : tabT ds k = some f) (hm : f.md = .keep) (hl : as.length = f.np) : callF (tabT ds) (lamT ls) F (d + 1) lm k as S = outKeep (sts ⟨callF (tabT ds) (lamT ls) F d, fun _ => lm, F, d, none⟩ f.body (Pv.start f.nn as) S) := by
  simp only [callF, h, hl, if_true, hm]
theorem cf_pure {ds : List DefI} {ls : List LamI} {F d k : Nat} {lm : LamC} {f : Fn} {xs : List PyData} {S : Sto} (h : tabT ds k = some f) (hm : f.md = .pure) (hl : xs.length = f.np) : callF (tabT ds) (lamT ls) F (d + 1) lm k (xs.map .d) S = outPure S (sts ⟨callF (tabT ds) (lamT ls) F d, fun _ => noLam, F, d, none⟩ f.body (Pv.start f.nn (xs.map .d)) []) := by
  have hd : datas (xs.map .d) = some xs := by
    induction xs generalizing f with
    | nil => rfl
    | cons x xs ih =>
      have z : datas (xs.map .d) = some xs := by
        clear ih h hm hl
        induction xs with
        | nil => rfl
        | cons x xs ih => simp [ih]
      simp [z]
  simp only [callF, h, List.length_map, hl, if_true, hm, hd]
/-- a pure def under any store -/
def R.onto (S : Sto) : R A → R A
  | .ok a _ => .ok a S
  | .ex k p _ => .ex k p S
  | .no => .no
theorem pure_lift {ds : List DefI} {ls : List LamI} {F d k : Nat} {lm : LamC} {f : Fn} {xs : List PyData} {S : Sto} (h : tabT ds k = some f) (hm : f.md = .pure) (hl : xs.length = f.np) : callF (tabT ds) (lamT ls) F (d + 1) lm k (xs.map .d) S = (callF (tabT ds) (lamT ls) F (d + 1) noLam k (xs.map .d) []).onto S := by
  rw [cf_pure h hm hl, cf_pure h hm hl]
  generalize sts _ _ _ [] = r
  cases r with
  | no => rfl
  | ex k p S' => rfl
  | ok f S' =>
    cases f with
    | rt a =>
      simp only [outPure]
      split <;> rfl
    | _ => rfl
/-- it ends with this exception -/
def isEx (r : R A) (k : Nat) (p : PyData) : Bool := match r with
  | .ex k' p' _ => k' == k && eqD p' p
  | _ => false
theorem isEx_onto {r : R A} {k : Nat} {p : PyData} (h : isEx r k p = true) (S : Sto) : r.onto S = .ex k p S := by
  cases r with
  | ex k' p' S' =>
    simp only [isEx, Bool.and_eq_true, beq_iff_eq] at h
    rw [h.1, eqD_eq h.2]; rfl
  | _ => cases h
end Pv
set_option Elab.async false
set_option maxRecDepth 100000
set_option linter.unusedVariables false
set_option linter.unusedSimpArgs false
/-! N1: what ends of calls leave of the store. -/
namespace Pv
open PySem L2
/-- no object leans on a place -/
def okS (S : Sto) : Prop := ∀ n, S.all (closedO n) = true
theorem okS.cut {S : Sto} (h : okS S) {n : Nat} {r : R A} : cut n S r = r := by
  unfold Pv.cut
  rw [if_pos]
  have z := h n
  rw [List.all_eq_true] at z ⊢
  exact fun o ho => z o (List.mem_of_mem_take ho)
theorem plain_ok {S : Sto} (h : S.all plainO = true) : okS S := fun n => by
  rw [List.all_eq_true] at h ⊢
  intro o ho
  have z := h o ho
  cases o <;> first | rfl | cases z
theorem okS.set {S : Sto} (h : okS S) {r : Nat} {o : O} (ho : ∀ n, closedO n o = true) : okS (S.set r o) := fun n => by
  have z := h n
  rw [List.all_eq_true] at z ⊢
  intro x hx
  rcases List.mem_or_eq_of_mem_set hx with q | q
  · exact z x q
  · rw [q]; exact ho n
theorem okS.app {S : Sto} (h : okS S) {o : O} (ho : ∀ n, closedO n o = true) : okS (S ++ [o]) := fun n => by
  rw [List.all_append, h n]
  simp [ho n]
theorem fin_d {n : Nat} {x : PyData} {S : Sto} (hl : S.length = n) (h : okS S) : fin n (.d x) S = .ok (.d x) S := by
  unfold fin
  simp only [frz_d]
  rw [h.cut, List.take_of_length_le (by omega)]
theorem plain_set {S : Sto} (h : S.all plainO = true) {r : Nat} {ds : List PyData} : (S.set r (.lst ds)).all plainO = true := by
  rw [List.all_eq_true] at h ⊢
  intro x hx
  rcases List.mem_or_eq_of_mem_set hx with q | q
  · exact h x q
  · rw [q]; rfl
@[simp] theorem outOf_rt {n : Nat} {v : A} {S : Sto} : outOf n (.ok (.rt v) S) = fin n v S := rfl
@[simp] theorem outOf_nx {n : Nat} {σ : En} {S : Sto} : outOf n (.ok (.nx σ) S) = fin n (.d .none) S := rfl
@[simp] theorem outKeep_rt {v : A} {S : Sto} : outKeep (.ok (.rt v) S) = .ok v S := rfl
theorem isL_of {S : Sto} {r : Nat} {as : List A} (h : S[r]? = some (.lsa as)) : isL S r = true := by unfold isL; rw [h]
theorem rd_ref {S : Sto} {r : Nat} {xs : List PyData} (h : S[r]? = some (.lst xs)) : rd S (.ref r) = some (.list xs) := by simp [rd, h]
/-- the pot at r, of which n draws at most have been made -/
structure PotN (r n : Nat) (S : Sto) : Prop where
  at_ : ∃ a b c : Int, S[r]? = some (.lst [.int a, .int b, .int c]) ∧ 0 ≤ a ∧ a.natAbs < 2 ^ 1000 ∧ 0 ≤ b ∧ b.natAbs < 2 ^ 62 ∧ 0 ≤ c ∧ c ≤ n
  pl : S.all plainO = true
theorem fmod_nn (x : Int) {u : Int} (hu : 0 < u) : 0 ≤ x.fmod u ∧ x.fmod u < u := ⟨Int.fmod_nonneg_of_pos _ hu, Int.fmod_lt_of_pos _ hu⟩
theorem nab_le {a : Int} {n m : Nat} (h : a.natAbs < 2 ^ n) (hnm : n ≤ m) : a.natAbs < 2 ^ m := Nat.lt_of_lt_of_le h (Nat.pow_le_pow_right (by omega) hnm)
theorem nab_mul {x y : Int} {n m : Nat} (hx : x.natAbs < 2 ^ n) (hy : y.natAbs < 2 ^ m) : (x * y).natAbs < 2 ^ (n + m) := by
  rw [Int.natAbs_mul, Nat.pow_add]
  exact Nat.mul_lt_mul'' hx hy
theorem nab_add {x y : Int} {n : Nat} (hx : x.natAbs < 2 ^ n) (hy : y.natAbs < 2 ^ n) : (x + y).natAbs < 2 ^ (n + 1) := by
  rw [Nat.pow_succ]
  have := Int.natAbs_add_le x y
  omega
theorem primes (m : Int) (h0 : 0 ≤ m) (h5 : m < 5) : ∃ p : Int, atI [PyData.int 2147483647, .int 2147483629, .int 2147483587, .int 2147483579, .int 2147483563] m = some (.int p) ∧ 0 < p ∧ p.natAbs < 2 ^ 31 := by
  obtain ⟨k, rfl⟩ : ∃ k : Nat, m = k := ⟨m.toNat, by omega⟩
  rw [Pv.atN]
  match k, h5 with
  | 0, _ => exact ⟨_, rfl, by decide, by decide⟩
  | 1, _ => exact ⟨_, rfl, by decide, by decide⟩
  | 2, _ => exact ⟨_, rfl, by decide, by decide⟩
  | 3, _ => exact ⟨_, rfl, by decide, by decide⟩
  | 4, _ => exact ⟨_, rfl, by decide, by decide⟩
  | k + 5, h => omega
end Pv
set_option Elab.async false
set_option maxRecDepth 100000
set_option linter.unusedVariables false
/-! the table of the law's defs -/
namespace K35
open PySem PySem.Spec PyProof.Rows L2 Pv
def top (i : Nat) : Stmt := PySem.Challenge.pw_whennumbersstop_k35_refusals_of_polynomi.main.body.getD i (.Pass ⟨0, 0, 0, 0⟩)
def z_BEYOND : Int := 1000000000000000000000000000000000000000000000000000000000000000000000000000000000000000000000000000000000000000000000000000000000000000000000000000000000000000000000000000000000000000000000000000000000000000000000000000000000000000000000000000000000000000000000000000000000000000000000000000000000000
def c_BEYOND : PyData := .int z_BEYOND
def b_is_integer : Ss := (.cons (.ret (.and (.bi .isInt (.cons (.v 0) .nil)) (.not (.bi .isBool (.cons (.v 0) .nil))))) .nil)
def b_is_between : Ss := (.cons (.ret (.and (.call 0 (.cons (.v 0) .nil)) (.chain .le .le (.v 1) (.v 0) (.v 2)))) .nil)
def b_common : Ss := (.cons (.ret (.bi .gcd (.cons (.v 0) (.cons (.v 1) .nil)))) .nil)
def b_reduced : Ss := (.cons (.set 2 (.ite (.cmp .gt (.v 1) (.k (.int 0))) (.call 2 (.cons (.v 0) (.cons (.v 1) .nil))) (.bin .sub (.k (.int 0)) (.call 2 (.cons (.v 0) (.cons (.v 1) .nil)))))) (.cons (.ret (.tup (.cons (.bin .fdiv (.v 0) (.v 2)) (.cons (.bin .fdiv (.v 1) (.v 2)) .nil)))) .nil))
def b_is_fraction : Ss := (.cons (.ife (.or (.not (.bi .isTup (.cons (.v 0) .nil))) (.or (.cmp .ne (.bi .len (.cons (.v 0) .nil)) (.k (.int 2))) (.not (.bi .all (.cons (.lc (.n 1) [1] (.e (.v 0)) (.call 0 (.cons (.v 1) .nil)) .nil) .nil))))) (.cons (.ret (.k (.bool false))) .nil) .nil) (.cons (.ret (.and (.cmp .ge (.ix (.v 0) (.k (.int 1))) (.k (.int 1))) (.cmp .eq (.call 2 (.cons (.ix (.v 0) (.k (.int 0))) (.cons (.ix (.v 0) (.k (.int 1))) .nil))) (.k (.int 1))))) .nil))
def b_is_told_fraction : Ss := (.cons (.ret (.and (.call 4 (.cons (.v 0) .nil)) (.and (.cmp .lt (.bi .abs (.cons (.ix (.v 0) (.k (.int 0))) .nil)) (.k c_BEYOND)) (.cmp .lt (.ix (.v 0) (.k (.int 1))) (.k c_BEYOND))))) .nil)
def b_added : Ss := (.cons (.ret (.call 3 (.cons (.bin .add (.bin .mul (.ix (.v 0) (.k (.int 0))) (.ix (.v 1) (.k (.int 1)))) (.bin .mul (.ix (.v 1) (.k (.int 0))) (.ix (.v 0) (.k (.int 1))))) (.cons (.bin .mul (.ix (.v 0) (.k (.int 1))) (.ix (.v 1) (.k (.int 1)))) .nil)))) .nil)
def b_difference : Ss := (.cons (.ret (.call 3 (.cons (.bin .sub (.bin .mul (.ix (.v 0) (.k (.int 0))) (.ix (.v 1) (.k (.int 1)))) (.bin .mul (.ix (.v 1) (.k (.int 0))) (.ix (.v 0) (.k (.int 1))))) (.cons (.bin .mul (.ix (.v 0) (.k (.int 1))) (.ix (.v 1) (.k (.int 1)))) .nil)))) .nil)
def b_product_of : Ss := (.cons (.ret (.call 3 (.cons (.bin .mul (.ix (.v 0) (.k (.int 0))) (.ix (.v 1) (.k (.int 0)))) (.cons (.bin .mul (.ix (.v 0) (.k (.int 1))) (.ix (.v 1) (.k (.int 1)))) .nil)))) .nil)
def b_quotient : Ss := (.cons (.ret (.call 3 (.cons (.bin .mul (.ix (.v 0) (.k (.int 0))) (.ix (.v 1) (.k (.int 1)))) (.cons (.bin .mul (.ix (.v 0) (.k (.int 1))) (.ix (.v 1) (.k (.int 0)))) .nil)))) .nil)
def b_integer_text : Ss := (.cons .nev (.cons .nev (.cons .nev (.cons .nev .nil))))
def b_fraction_text : Ss := (.cons .nev .nil)
def b_is_poly : Ss := (.cons (.ife (.or (.not (.bi .isTup (.cons (.v 0) .nil))) (.cmp .gt (.bi .len (.cons (.v 0) .nil)) (.bin .add (.k (.int 20)) (.k (.int 1))))) (.cons (.ret (.k (.bool false))) .nil) .nil) (.cons (.ret (.and (.bi .all (.cons (.lc (.n 1) [1] (.e (.v 0)) (.call 5 (.cons (.v 1) .nil)) .nil) .nil)) (.or (.cmp .eq (.v 0) (.tup .nil)) (.cmp .ne (.ix (.ix (.v 0) (.neg (.k (.int 1)))) (.k (.int 0))) (.k (.int 0)))))) .nil))
def b_check_poly : Ss := (.cons (.ife (.not (.call 12 (.cons (.v 0) .nil))) (.cons (.raise 3 (.v 0)) .nil) .nil) .nil)
def b_check_two_polys : Ss := (.cons (.expr (.call 13 (.cons (.v 0) .nil))) (.cons (.expr (.call 13 (.cons (.v 1) .nil))) .nil))
def b_trimmed : Ss := (.cons (.set 1 (.bi .len (.cons (.v 0) .nil))) (.cons (.whl (.and (.cmp .gt (.v 1) (.k (.int 0))) (.cmp .eq (.ix (.ix (.v 0) (.bin .sub (.v 1) (.k (.int 1)))) (.k (.int 0))) (.k (.int 0)))) (.cons (.set 1 (.bin .sub (.v 1) (.k (.int 1)))) .nil)) (.cons (.ret (.bi .tuple (.cons (.slice (.v 0) .nil (.cons (.v 1) .nil)) .nil))) .nil)))
def b_degree_of : Ss := (.cons (.ret (.bin .sub (.bi .len (.cons (.v 0) .nil)) (.k (.int 1)))) .nil)
def b_number_at : Ss := (.cons (.ret (.ite (.cmp .lt (.v 1) (.bi .len (.cons (.v 0) .nil))) (.ix (.v 0) (.v 1)) (.k (.tuple [(.int 0), (.int 1)])))) .nil)
def b_poly_plus : Ss := (.cons (.ret (.call 15 (.cons (.lc (.n 2) [2] (.rng (.cons (.bi .max (.cons (.bi .len (.cons (.v 0) .nil)) (.cons (.bi .len (.cons (.v 1) .nil)) .nil))) .nil)) (.call 6 (.cons (.call 17 (.cons (.v 0) (.cons (.v 2) .nil))) (.cons (.call 17 (.cons (.v 1) (.cons (.v 2) .nil))) .nil))) .nil) .nil))) .nil)
def b_poly_less : Ss := (.cons (.ret (.call 15 (.cons (.lc (.n 2) [2] (.rng (.cons (.bi .max (.cons (.bi .len (.cons (.v 0) .nil)) (.cons (.bi .len (.cons (.v 1) .nil)) .nil))) .nil)) (.call 7 (.cons (.call 17 (.cons (.v 0) (.cons (.v 2) .nil))) (.cons (.call 17 (.cons (.v 1) (.cons (.v 2) .nil))) .nil))) .nil) .nil))) .nil)
def b_poly_by_number : Ss := (.cons (.ret (.call 15 (.cons (.lc (.n 2) [2] (.e (.v 0)) (.call 8 (.cons (.v 2) (.cons (.v 1) .nil))) .nil) .nil))) .nil)
def b_poly_times : Ss := (.cons (.set 2 (.own (.repF (.lst (.cons (.k (.tuple [(.int 0), (.int 1)])) .nil)) (.bi .max (.cons (.k (.int 0)) (.cons (.bin .sub (.bin .add (.bi .len (.cons (.v 0) .nil)) (.bi .len (.cons (.v 1) .nil))) (.k (.int 1))) .nil)))))) (.cons (.for_ (.t [3, 4]) (.enum (.v 0)) (.cons (.ife (.cmp .ne (.ix (.v 4) (.k (.int 0))) (.k (.int 0))) (.cons (.for_ (.t [5, 6]) (.enum (.v 1)) (.cons (.six (.v 2) (.bin .add (.v 3) (.v 5)) (.call 6 (.cons (.ix (.v 2) (.bin .add (.v 3) (.v 5))) (.cons (.call 8 (.cons (.v 4) (.cons (.v 6) .nil))) .nil)))) .nil)) .nil) .nil) .nil)) (.cons (.ret (.call 15 (.cons (.v 2) .nil))) .nil)))
def b_poly_power : Ss := (.cons (.par3 2 3 4 (.tup (.cons (.k (.tuple [(.int 1), (.int 1)])) .nil)) (.v 1) (.v 0)) (.cons (.whl (.cmp .gt (.v 3) (.k (.int 0))) (.cons (.set 2 (.ite (.cmp .eq (.bin .mod (.v 3) (.k (.int 2))) (.k (.int 1))) (.call 21 (.cons (.v 2) (.cons (.v 4) .nil))) (.v 2))) (.cons (.set 3 (.bin .fdiv (.v 3) (.k (.int 2)))) (.cons (.set 4 (.ite (.cmp .gt (.v 3) (.k (.int 0))) (.call 21 (.cons (.v 4) (.cons (.v 4) .nil))) (.v 4))) .nil)))) (.cons (.ret (.v 2)) .nil)))
def b_slope_of : Ss := (.cons (.ret (.call 15 (.cons (.slice (.lc (.t [1, 2]) [1, 2] (.enum (.v 0)) (.call 8 (.cons (.v 2) (.cons (.tup (.cons (.v 1) (.cons (.k (.int 1)) .nil))) .nil))) .nil) (.cons (.k (.int 1)) .nil) .nil) .nil))) .nil)
def b_value_at : Ss := (.cons (.set 2 (.k (.tuple [(.int 0), (.int 1)]))) (.cons (.for_ (.n 3) (.e (.rev (.v 0))) (.cons (.set 2 (.call 6 (.cons (.call 8 (.cons (.v 2) (.cons (.v 1) .nil))) (.cons (.v 3) .nil)))) .nil)) (.cons (.ret (.v 2)) .nil)))
def b_divided : Ss := (.cons (.par 3 4 (.bi .list (.cons (.v 0) .nil)) (.own (.repF (.lst (.cons (.k (.tuple [(.int 0), (.int 1)])) .nil)) (.bi .max (.cons (.k (.int 0)) (.cons (.bin .add (.bin .sub (.bi .len (.cons (.v 0) .nil)) (.bi .len (.cons (.v 1) .nil))) (.k (.int 1))) .nil)))))) (.cons (.for_ (.n 2) (.rng (.cons (.bin .sub (.bi .len (.cons (.v 0) .nil)) (.bi .len (.cons (.v 1) .nil))) (.cons (.neg (.k (.int 1))) (.cons (.neg (.k (.int 1))) .nil)))) (.cons (.set 5 (.call 9 (.cons (.ix (.v 3) (.bin .sub (.bin .add (.v 2) (.bi .len (.cons (.v 1) .nil))) (.k (.int 1)))) (.cons (.ix (.v 1) (.neg (.k (.int 1)))) .nil)))) (.cons (.six (.v 4) (.v 2) (.v 5)) (.cons (.ife (.cmp .ne (.ix (.v 5) (.k (.int 0))) (.k (.int 0))) (.cons (.for_ (.t [6, 7]) (.enum (.v 1)) (.cons (.six (.v 3) (.bin .add (.v 2) (.v 6)) (.call 7 (.cons (.ix (.v 3) (.bin .add (.v 2) (.v 6))) (.cons (.call 8 (.cons (.v 5) (.cons (.v 7) .nil))) .nil)))) .nil)) .nil) .nil) .nil)))) (.cons (.ret (.tup (.cons (.call 15 (.cons (.v 4) .nil)) (.cons (.call 15 (.cons (.v 3) .nil)) .nil)))) .nil)))
def b_led_common : Ss := (.cons (.set 2 (.lst (.cons (.tup (.cons (.v 0) (.cons (.tup (.cons (.k (.tuple [(.int 1), (.int 1)])) .nil)) (.cons (.tup .nil) .nil)))) (.cons (.tup (.cons (.v 1) (.cons (.tup .nil) (.cons (.tup (.cons (.k (.tuple [(.int 1), (.int 1)])) .nil)) .nil)))) .nil)))) (.cons (.whl (.cmp .ne (.ix (.ix (.v 2) (.k (.int 1))) (.k (.int 0))) (.tup .nil)) (.cons (.set 3 (.ix (.call 25 (.cons (.ix (.ix (.v 2) (.k (.int 0))) (.k (.int 0))) (.cons (.ix (.ix (.v 2) (.k (.int 1))) (.k (.int 0))) .nil))) (.k (.int 0)))) (.cons (.set 2 (.lst (.cons (.ix (.v 2) (.k (.int 1))) (.cons (.bi .tuple (.cons (.lc (.t [5, 6]) [5, 6] (.zip (.ix (.v 2) (.k (.int 0))) (.ix (.v 2) (.k (.int 1)))) (.call 19 (.cons (.v 5) (.cons (.call 21 (.cons (.v 3) (.cons (.v 6) .nil))) .nil))) .nil) .nil)) .nil)))) .nil))) (.cons (.set 3 (.call 9 (.cons (.k (.tuple [(.int 1), (.int 1)])) (.cons (.ix (.ix (.ix (.v 2) (.k (.int 0))) (.k (.int 0))) (.neg (.k (.int 1)))) .nil)))) (.cons (.ret (.bi .tuple (.cons (.lc (.n 4) [4] (.e (.ix (.v 2) (.k (.int 0)))) (.call 20 (.cons (.v 4) (.cons (.v 3) .nil))) .nil) .nil))) .nil))))
def b_poly_sum : Ss := (.cons (.expr (.call 14 (.cons (.v 0) (.cons (.v 1) .nil)))) (.cons (.ret (.call 18 (.cons (.v 0) (.cons (.v 1) .nil)))) .nil))
def b_poly_product : Ss := (.cons (.expr (.call 14 (.cons (.v 0) (.cons (.v 1) .nil)))) (.cons (.ife (.cmp .gt (.bin .add (.call 16 (.cons (.v 0) .nil)) (.call 16 (.cons (.v 1) .nil))) (.k (.int 20))) (.cons (.raise 2 (.k (.int 20))) .nil) .nil) (.cons (.ret (.call 21 (.cons (.v 0) (.cons (.v 1) .nil)))) .nil)))
def b_poly_divided : Ss := (.cons (.expr (.call 14 (.cons (.v 0) (.cons (.v 1) .nil)))) (.cons (.ife (.cmp .eq (.v 1) (.tup .nil)) (.cons (.raise 3 (.v 1)) .nil) .nil) (.cons (.ret (.call 25 (.cons (.v 0) (.cons (.v 1) .nil)))) .nil)))
def b_poly_common : Ss := (.cons (.expr (.call 14 (.cons (.v 0) (.cons (.v 1) .nil)))) (.cons (.ife (.and (.cmp .eq (.v 0) (.tup .nil)) (.cmp .eq (.v 1) (.tup .nil))) (.cons (.raise 3 (.v 1)) .nil) .nil) (.cons (.ret (.call 26 (.cons (.v 0) (.cons (.v 1) .nil)))) .nil)))
def b_poly_value : Ss := (.cons (.expr (.call 13 (.cons (.v 0) .nil))) (.cons (.ife (.not (.call 5 (.cons (.v 1) .nil))) (.cons (.raise 1 (.v 1)) .nil) .nil) (.cons (.ret (.call 24 (.cons (.v 0) (.cons (.v 1) .nil)))) .nil)))
def b_poly_slope : Ss := (.cons (.expr (.call 13 (.cons (.v 0) .nil))) (.cons (.ret (.call 23 (.cons (.v 0) .nil))) .nil))
def b_poly_raised : Ss := (.cons (.expr (.call 13 (.cons (.v 0) .nil))) (.cons (.ife (.not (.call 1 (.cons (.v 1) (.cons (.k (.int 0)) (.cons (.k (.int 20)) .nil))))) (.cons (.raise 1 (.v 1)) .nil) .nil) (.cons (.ife (.cmp .gt (.bin .mul (.call 16 (.cons (.v 0) .nil)) (.v 1)) (.k (.int 20))) (.cons (.raise 2 (.k (.int 20))) .nil) .nil) (.cons (.ret (.call 22 (.cons (.v 0) (.cons (.v 1) .nil)))) .nil))))
def b_power_text : Ss := (.cons .nev .nil)
def b_poly_text : Ss := (.cons (.expr (.call 13 (.cons (.v 0) .nil))) (.cons (.ret (.call 36 (.cons (.v 0) .nil))) .nil))
def b_text_of_poly : Ss := (.cons .nev (.cons .nev (.cons .nev .nil)))
def b_law_pot : Ss := (.cons (.set 2 (.ite (.cmp .lt (.v 1) (.bi .len (.cons (.v 0) .nil))) (.ix (.v 0) (.v 1)) (.bin .add (.bin .add (.bin .mod (.bi .sum (.cons (.slice (.v 0) .nil (.cons (.k (.int 1)) .nil)) .nil)) (.k (.int 1000003))) (.bin .mul (.k (.int 90767)) (.v 1))) (.k (.int 113965))))) (.cons (.set 3 (.bin .mul (.bin .mod (.bi .int (.cons (.bi .abs (.cons (.v 2) .nil)) .nil)) (.bin .pow (.bin .pow (.k (.int 10)) (.k (.int 60))) (.k (.int 5)))) (.bi .int (.cons (.cmp .ge (.bi .abs (.cons (.v 2) .nil)) (.bin .pow (.k (.int 10)) (.k (.int 18)))) .nil)))) (.cons (.set 4 (.bin .mod (.bi .int (.cons (.v 2) .nil)) (.k (.int 2305843009213693951)))) (.cons (.ret (.lstM (.cons (.v 3) (.cons (.bin .mod (.bi .int (.cons (.bin .add (.bin .add (.bin .mul (.v 4) (.k (.int 590693))) (.bin .mul (.bin .mul (.k (.int 100381)) (.v 1)) (.v 1))) (.k (.int 61151))) .nil)) (.k (.int 2305843009213693921))) (.cons (.k (.int 0)) .nil))))) .nil))))
def b_law_cells : Ss := (.cons (.ret (.bi .listRange (.cons (.bi .max (.cons (.k (.int 1)) (.cons (.bi .min (.cons (.v 1) (.cons (.bi .len (.cons (.v 0) .nil)) .nil))) .nil))) .nil))) .nil)
def b_law_heard : Ss := (.cons (.tryR (some 2) (.callv (.v 0)) [0, 1, 2, 3] 1) (.cons (.ret (.tup (.cons (.k .none) (.cons (.v 2) .nil)))) .nil))
def b_law_take : Ss := (.cons (.ife (.cmp .gt (.ix (.v 0) (.k (.int 0))) (.k (.int 0))) (.cons (.set 4 (.bin .mod (.bi .int (.cons (.ix (.v 0) (.k (.int 0))) .nil)) (.v 1))) (.cons (.six (.v 0) (.k (.int 0)) (.bin .fdiv (.ix (.v 0) (.k (.int 0))) (.v 1))) (.cons (.ret (.v 4)) .nil))) .nil) (.cons (.six (.v 0) (.k (.int 2)) (.bin .add (.ix (.v 0) (.k (.int 2))) (.k (.int 1)))) (.cons (.set 2 (.ix (.lst (.cons (.k (.int 2147483647)) (.cons (.k (.int 2147483629)) (.cons (.k (.int 2147483587)) (.cons (.k (.int 2147483579)) (.cons (.k (.int 2147483563)) .nil)))))) (.bin .mod (.bi .int (.cons (.ix (.v 0) (.k (.int 2))) .nil)) (.k (.int 5))))) (.cons (.set 3 (.bin .mod (.bi .int (.cons (.bin .pow (.bi .int (.cons (.bin .add (.bin .add (.ix (.v 0) (.k (.int 1))) (.bin .mul (.bin .mul (.k (.int 180778)) (.ix (.v 0) (.k (.int 2)))) (.ix (.v 0) (.k (.int 2))))) (.k (.int 61151))) .nil)) (.k (.int 3))) .nil)) (.v 2))) (.cons (.set 3 (.bin .mod (.bi .int (.cons (.bin .mul (.v 3) (.bin .add (.bin .mod (.bi .int (.cons (.v 3) .nil)) (.k (.int 122966))) (.bin .mul (.k (.int 94)) (.ix (.v 0) (.k (.int 2)))))) .nil)) (.k (.int 2305843009213693907)))) (.cons (.ret (.bin .mod (.bi .int (.cons (.bin .fdiv (.v 3) (.k (.int 128))) .nil)) (.v 1))) .nil))))))
def b_law_of : Ss := (.cons (.ret (.ix (.v 1) (.call 40 (.cons (.v 0) (.cons (.bi .len (.cons (.v 1) .nil)) .nil))))) .nil)
def b_law_right : Ss := (.cons (.set 1 (.bin .pow (.bin .pow (.k (.int 10)) (.k (.int 60))) (.k (.int 5)))) (.cons (.set 2 (.lstM (.cons (.k .none) (.cons (.k (.int 5)) (.cons (.k (.str "x")) (.cons (.lst (.cons (.tup (.cons (.k (.int 1)) (.cons (.k (.int 1)) .nil))) .nil)) (.cons (.tup (.cons (.k (.int 1)) (.cons (.k (.int 1)) .nil))) (.cons (.tup (.cons (.tup (.cons (.k (.int 1)) (.cons (.k (.int 1)) .nil))) (.cons (.tup (.cons (.k (.int 0)) (.cons (.k (.int 1)) .nil))) .nil))) (.cons (.tup (.cons (.tup (.cons (.k (.int 2)) (.cons (.k (.int 4)) .nil))) .nil)) (.cons (.tup (.cons (.tup (.cons (.k (.int 1)) (.cons (.k (.int 0)) .nil))) .nil)) (.cons (.tup (.cons (.tup (.cons (.k (.int 1)) (.cons (.neg (.k (.int 1))) .nil))) .nil)) (.cons (.tup (.cons (.tup (.cons (.k (.bool true)) (.cons (.k (.int 1)) .nil))) .nil)) (.cons (.tup (.cons (.tup (.cons (.k (.int 0)) (.cons (.k (.int 1)) .nil))) .nil)) .nil))))))))))))) (.cons (.set 3 (.call 41 (.cons (.v 0) (.cons (.catF (.v 2) (.lst (.cons (.bin .add (.bin .mul (.tup (.cons (.tup (.cons (.k (.int 0)) (.cons (.k (.int 1)) .nil))) .nil)) (.k (.int 21))) (.tup (.cons (.tup (.cons (.k (.int 1)) (.cons (.k (.int 1)) .nil))) .nil))) (.cons (.tup (.cons (.tup (.cons (.v 1) (.cons (.k (.int 1)) .nil))) .nil)) (.cons (.tup (.cons (.tup (.cons (.k (.int 1)) (.cons (.v 1) .nil))) .nil)) (.cons (.tup (.cons (.tup (.cons (.k (.int 1)) (.cons (.k (.int 1)) (.cons (.k (.int 1)) .nil)))) .nil)) .nil)))))) .nil)))) (.cons (.set 4 (.call 41 (.cons (.v 0) (.cons (.lst (.cons (.k .none) (.cons (.tup (.cons (.tup (.cons (.k (.int 0)) (.cons (.k (.int 1)) .nil))) .nil)) (.cons (.tup (.cons (.tup (.cons (.k (.int 1)) (.cons (.k (.int 1)) .nil))) (.cons (.k (.int 2)) .nil))) (.cons (.k (.str "poly")) .nil))))) .nil)))) (.cons (.set 5 (.call 41 (.cons (.v 0) (.cons (.lst (.cons (.k .none) (.cons (.k (.int 1)) (.cons (.tup (.cons (.k (.int 2)) (.cons (.k (.int 4)) .nil))) (.cons (.tup (.cons (.k (.int 1)) (.cons (.k (.int 0)) .nil))) (.cons (.k (.str "1")) (.cons (.tup (.cons (.v 1) (.cons (.k (.int 1)) .nil))) (.cons (.tup (.cons (.k (.int 1)) (.cons (.k (.bool true)) .nil))) .nil)))))))) .nil)))) (.cons (.unp [7, 8] (.tup (.cons (.call 41 (.cons (.v 0) (.cons (.lst (.cons (.k .none) (.cons (.neg (.k (.int 1))) (.cons (.k (.int 21)) (.cons (.k (.bool true)) (.cons (.k (.str "2")) .nil)))))) .nil))) (.cons (.tup (.cons (.tup (.cons (.neg (.k (.int 1))) (.cons (.k (.int 1)) .nil))) (.cons (.tup (.cons (.k (.int 1)) (.cons (.k (.int 1)) .nil))) .nil))) .nil)))) (.cons (.set 6 (.lstA (.cons (.tup (.cons (.mk 0 0 42) (.cons (.k (.int 0)) (.cons (.v 3) .nil)))) .nil))) (.cons (.app (.v 6) (.tup (.cons (.mk 1 0 42) (.cons (.k (.int 0)) (.cons (.v 3) .nil))))) (.cons (.app (.v 6) (.tup (.cons (.mk 2 0 42) (.cons (.k (.int 0)) (.cons (.v 3) .nil))))) (.cons (.app (.v 6) (.tup (.cons (.mk 3 0 42) (.cons (.k (.int 0)) (.cons (.v 4) .nil))))) (.cons (.app (.v 6) (.tup (.cons (.mk 4 0 42) (.cons (.k (.int 0)) (.cons (.v 3) .nil))))) (.cons (.app (.v 6) (.tup (.cons (.mk 5 0 42) (.cons (.k (.int 0)) (.cons (.v 4) .nil))))) (.cons (.app (.v 6) (.tup (.cons (.mk 6 0 42) (.cons (.k (.int 0)) (.cons (.tup .nil) .nil))))) (.cons (.app (.v 6) (.tup (.cons (.mk 7 0 42) (.cons (.k (.int 0)) (.cons (.tup .nil) .nil))))) (.cons (.app (.v 6) (.tup (.cons (.mk 8 0 42) (.cons (.k (.int 0)) (.cons (.v 3) .nil))))) (.cons (.app (.v 6) (.tup (.cons (.mk 9 0 42) (.cons (.k (.int 0)) (.cons (.tup .nil) .nil))))) (.cons (.app (.v 6) (.tup (.cons (.mk 10 0 42) (.cons (.k (.int 0)) (.cons (.v 3) .nil))))) (.cons (.app (.v 6) (.tup (.cons (.mk 11 0 42) (.cons (.k (.int 0)) (.cons (.v 3) .nil))))) (.cons (.app (.v 6) (.tup (.cons (.mk 12 0 42) (.cons (.k (.int 0)) (.cons (.v 3) .nil))))) (.cons (.app (.v 6) (.tup (.cons (.mk 13 0 42) (.cons (.k (.int 1)) (.cons (.v 5) .nil))))) (.cons (.app (.v 6) (.tup (.cons (.mk 14 0 42) (.cons (.k (.int 0)) (.cons (.v 3) .nil))))) (.cons (.app (.v 6) (.tup (.cons (.mk 15 0 42) (.cons (.k (.int 1)) (.cons (.v 7) .nil))))) (.cons (.forL (.t [9, 10, 11]) (.v 6) (.cons (.set 12 (.ix (.call 39 (.cons (.v 9) .nil)) (.k (.int 0)))) (.cons (.set 13 (.lst (.cons (.isC (.v 12) [3]) (.cons (.isC (.v 12) [1]) .nil)))) (.cons (.ife (.or (.cmp .ne (.v 13) (.lc (.n 16) [16] (.rng (.cons (.k (.int 2)) .nil)) (.cmp .eq (.v 10) (.v 16)) .nil)) (.cmp .ne (.bi .repr (.cons (.exv (.v 12)) .nil)) (.bi .repr (.cons (.v 11) .nil)))) (.cons (.ret (.k (.bool false))) .nil) .nil) (.cons (.ife (.not (.isV (.v 12))) (.cons (.ret (.k (.bool false))) .nil) .nil) .nil))))) (.cons (.par 14 15 (.bin .add (.bin .mul (.tup (.cons (.tup (.cons (.k (.int 0)) (.cons (.k (.int 1)) .nil))) .nil)) (.k (.int 20))) (.tup (.cons (.tup (.cons (.k (.int 1)) (.cons (.k (.int 1)) .nil))) .nil))) (.tup (.cons (.tup (.cons (.bin .sub (.v 1) (.k (.int 1))) (.cons (.k (.int 1)) .nil))) (.cons (.tup (.cons (.k (.int 1)) (.cons (.bin .sub (.v 1) (.k (.int 1))) .nil))) .nil)))) (.cons (.ife (.or (.cmp .ne (.ix (.call 27 (.cons (.v 14) (.cons (.v 14) .nil))) (.k (.int 20))) (.tup (.cons (.k (.int 2)) (.cons (.k (.int 1)) .nil)))) (.cmp .ne (.call 31 (.cons (.v 15) (.cons (.tup (.cons (.k (.int 0)) (.cons (.k (.int 1)) .nil))) .nil))) (.tup (.cons (.bin .sub (.v 1) (.k (.int 1))) (.cons (.k (.int 1)) .nil))))) (.cons (.ret (.k (.bool false))) .nil) .nil) (.cons (.ret (.and (.cmp .eq (.ix (.call 30 (.cons (.tup .nil) (.cons (.v 8) .nil))) (.k (.int 0))) (.v 8)) (.cmp .eq (.call 29 (.cons (.tup .nil) (.cons (.v 8) .nil))) (.tup (.cons (.tup .nil) (.cons (.tup .nil) .nil)))))) .nil))))))))))))))))))))))))))
def b_law : Ss := (.cons (.for_ (.n 1) (.e (.call 38 (.cons (.v 0) (.cons (.k (.int 3)) .nil)))) (.cons (.set 2 (.call 37 (.cons (.v 0) (.cons (.v 1) .nil)))) (.cons (.ife (.not (.bi .all (.cons (.lc (.n 3) [3] (.rng (.cons (.k (.int 4)) .nil)) (.call 42 (.cons (.v 2) .nil)) .nil) .nil))) (.cons (.ret (.k (.bool false))) .nil) .nil) .nil))) (.cons (.ret (.k (.bool true))) .nil))
def i_is_integer : DefI := { name := "is_integer", st := top 13, N := ["value"], fn := { np := 1, nn := 1, body := b_is_integer, md := .pure }, kw := false }
def i_is_between : DefI := { name := "is_between", st := top 14, N := ["value", "low", "high"], fn := { np := 3, nn := 3, body := b_is_between, md := .pure }, kw := false }
def i_common : DefI := { name := "common", st := top 15, N := ["one", "other"], fn := { np := 2, nn := 2, body := b_common, md := .pure }, kw := false }
def i_reduced : DefI := { name := "reduced", st := top 16, N := ["top", "low", "by"], fn := { np := 2, nn := 3, body := b_reduced, md := .pure }, kw := false }
def i_is_fraction : DefI := { name := "is_fraction", st := top 17, N := ["value", "part"], fn := { np := 1, nn := 2, body := b_is_fraction, md := .pure }, kw := false }
def i_is_told_fraction : DefI := { name := "is_told_fraction", st := top 18, N := ["value"], fn := { np := 1, nn := 1, body := b_is_told_fraction, md := .pure }, kw := false }
def i_added : DefI := { name := "added", st := top 19, N := ["one", "other"], fn := { np := 2, nn := 2, body := b_added, md := .pure }, kw := false }
def i_difference : DefI := { name := "difference", st := top 20, N := ["one", "other"], fn := { np := 2, nn := 2, body := b_difference, md := .pure }, kw := false }
def i_product_of : DefI := { name := "product_of", st := top 21, N := ["one", "other"], fn := { np := 2, nn := 2, body := b_product_of, md := .pure }, kw := false }
def i_quotient : DefI := { name := "quotient", st := top 22, N := ["one", "other"], fn := { np := 2, nn := 2, body := b_quotient, md := .pure }, kw := false }
def i_integer_text : DefI := { name := "integer_text", st := top 23, N := ["one", "parts", "rest"], fn := { np := 1, nn := 3, body := b_integer_text, md := .pure }, kw := false }
def i_fraction_text : DefI := { name := "fraction_text", st := top 24, N := ["one"], fn := { np := 1, nn := 1, body := b_fraction_text, md := .pure }, kw := false }
def i_is_poly : DefI := { name := "is_poly", st := top 28, N := ["value", "one"], fn := { np := 1, nn := 2, body := b_is_poly, md := .pure }, kw := false }
def i_check_poly : DefI := { name := "check_poly", st := top 29, N := ["poly"], fn := { np := 1, nn := 1, body := b_check_poly, md := .pure }, kw := false }
def i_check_two_polys : DefI := { name := "check_two_polys", st := top 30, N := ["one", "other"], fn := { np := 2, nn := 2, body := b_check_two_polys, md := .pure }, kw := false }
def i_trimmed : DefI := { name := "trimmed", st := top 31, N := ["numbers", "many"], fn := { np := 1, nn := 2, body := b_trimmed, md := .std }, kw := false }
def i_degree_of : DefI := { name := "degree_of", st := top 32, N := ["poly"], fn := { np := 1, nn := 1, body := b_degree_of, md := .pure }, kw := false }
def i_number_at : DefI := { name := "number_at", st := top 33, N := ["poly", "at"], fn := { np := 2, nn := 2, body := b_number_at, md := .pure }, kw := false }
def i_poly_plus : DefI := { name := "poly_plus", st := top 34, N := ["one", "other", "at"], fn := { np := 2, nn := 3, body := b_poly_plus, md := .pure }, kw := false }
def i_poly_less : DefI := { name := "poly_less", st := top 35, N := ["one", "other", "at"], fn := { np := 2, nn := 3, body := b_poly_less, md := .pure }, kw := false }
def i_poly_by_number : DefI := { name := "poly_by_number", st := top 36, N := ["poly", "by", "one"], fn := { np := 2, nn := 3, body := b_poly_by_number, md := .pure }, kw := false }
def i_poly_times : DefI := { name := "poly_times", st := top 37, N := ["one", "other", "found", "at", "mine", "to", "its"], fn := { np := 2, nn := 7, body := b_poly_times, md := .pure }, kw := false }
def i_poly_power : DefI := { name := "poly_power", st := top 38, N := ["poly", "many", "found", "left", "square"], fn := { np := 2, nn := 5, body := b_poly_power, md := .pure }, kw := false }
def i_slope_of : DefI := { name := "slope_of", st := top 39, N := ["poly", "at", "one"], fn := { np := 1, nn := 3, body := b_slope_of, md := .pure }, kw := false }
def i_value_at : DefI := { name := "value_at", st := top 40, N := ["poly", "number", "found", "one"], fn := { np := 2, nn := 4, body := b_value_at, md := .pure }, kw := false }
def i_divided : DefI := { name := "divided", st := top 41, N := ["one", "other", "at", "rest", "found", "by", "to", "its"], fn := { np := 2, nn := 8, body := b_divided, md := .pure }, kw := false }
def i_led_common : DefI := { name := "led_common", st := top 42, N := ["one", "other", "rows", "by", "part", "mine", "its"], fn := { np := 2, nn := 7, body := b_led_common, md := .pure }, kw := false }
def i_poly_sum : DefI := { name := "poly_sum", st := top 43, N := ["one", "other"], fn := { np := 2, nn := 2, body := b_poly_sum, md := .pure }, kw := false }
def i_poly_product : DefI := { name := "poly_product", st := top 44, N := ["one", "other"], fn := { np := 2, nn := 2, body := b_poly_product, md := .pure }, kw := false }
def i_poly_divided : DefI := { name := "poly_divided", st := top 45, N := ["one", "other"], fn := { np := 2, nn := 2, body := b_poly_divided, md := .pure }, kw := false }
def i_poly_common : DefI := { name := "poly_common", st := top 46, N := ["one", "other"], fn := { np := 2, nn := 2, body := b_poly_common, md := .pure }, kw := false }
def i_poly_value : DefI := { name := "poly_value", st := top 47, N := ["poly", "number"], fn := { np := 2, nn := 2, body := b_poly_value, md := .pure }, kw := false }
def i_poly_slope : DefI := { name := "poly_slope", st := top 48, N := ["poly"], fn := { np := 1, nn := 1, body := b_poly_slope, md := .pure }, kw := false }
def i_poly_raised : DefI := { name := "poly_raised", st := top 49, N := ["poly", "many"], fn := { np := 2, nn := 2, body := b_poly_raised, md := .pure }, kw := false }
def i_power_text : DefI := { name := "power_text", st := top 50, N := ["at"], fn := { np := 1, nn := 1, body := b_power_text, md := .pure }, kw := false }
def i_poly_text : DefI := { name := "poly_text", st := top 51, N := ["poly"], fn := { np := 1, nn := 1, body := b_poly_text, md := .pure }, kw := false }
def i_text_of_poly : DefI := { name := "text_of_poly", st := top 52, N := ["poly", "found", "at", "word"], fn := { np := 1, nn := 4, body := b_text_of_poly, md := .pure }, kw := false }
def i_law_pot : DefI := { name := "_law_pot", st := top 54, N := ["script", "place", "cell", "own", "small"], fn := { np := 2, nn := 5, body := b_law_pot, md := .keep }, kw := false }
def i_law_cells : DefI := { name := "_law_cells", st := top 55, N := ["script", "limit"], fn := { np := 2, nn := 2, body := b_law_cells, md := .pure }, kw := false }
def i_law_heard : DefI := { name := "_law_heard", st := top 56, N := ["look", "error", "told"], fn := { np := 1, nn := 3, body := b_law_heard, md := .std }, kw := false }
def i_law_take : DefI := { name := "_law_take", st := top 57, N := ["pot", "upto", "prime", "blend", "digit"], fn := { np := 2, nn := 5, body := b_law_take, md := .std }, kw := false }
def i_law_of : DefI := { name := "_law_of", st := top 58, N := ["pot", "some"], fn := { np := 2, nn := 2, body := b_law_of, md := .std }, kw := false }
def i_law_right : DefI := { name := "_law_right", st := top 59, N := ["pot", "far", "odd", "bad", "other", "number", "looks", "many", "good", "look", "at", "value", "caught", "kinds", "wide", "great", "to"], fn := { np := 1, nn := 17, body := b_law_right, md := .me 42 }, kw := false }
def i_law : DefI := { name := "law", st := top 60, N := ["script", "place", "pot", "lap"], fn := { np := 1, nn := 4, body := b_law, md := .std }, kw := false }
def ds : List DefI := [i_is_integer, i_is_between, i_common, i_reduced, i_is_fraction, i_is_told_fraction, i_added, i_difference, i_product_of, i_quotient, i_integer_text, i_fraction_text, i_is_poly, i_check_poly, i_check_two_polys, i_trimmed, i_degree_of, i_number_at, i_poly_plus, i_poly_less, i_poly_by_number, i_poly_times, i_poly_power, i_slope_of, i_value_at, i_divided, i_led_common, i_poly_sum, i_poly_product, i_poly_divided, i_poly_common, i_poly_value, i_poly_slope, i_poly_raised, i_power_text, i_poly_text, i_text_of_poly, i_law_pot, i_law_cells, i_law_heard, i_law_take, i_law_of, i_law_right, i_law]
/-- the lambdas of a text, in order -/
def lamAt (n : Nat) : Arguments × Expr × Scope := match (lamsSs (defBody (top 59)))[n]? with | some x => x | none => (⟨[], [], none, [], [], none, []⟩, .Tuple [] 0 ⟨0, 0, 0, 0⟩, default)
def l_0 : LamI := { own := 42, q := lamQ "_law_right", params := (lamAt 0).1, body := (lamAt 0).2.1, scope := (lamAt 0).2.2, ex := (.call 27 (.cons (.v 3) (.cons (.v 4) .nil))) }
def l_1 : LamI := { own := 42, q := lamQ "_law_right", params := (lamAt 1).1, body := (lamAt 1).2.1, scope := (lamAt 1).2.2, ex := (.call 27 (.cons (.v 8) (.cons (.v 3) .nil))) }
def l_2 : LamI := { own := 42, q := lamQ "_law_right", params := (lamAt 2).1, body := (lamAt 2).2.1, scope := (lamAt 2).2.2, ex := (.call 28 (.cons (.v 3) (.cons (.v 4) .nil))) }
def l_3 : LamI := { own := 42, q := lamQ "_law_right", params := (lamAt 3).1, body := (lamAt 3).2.1, scope := (lamAt 3).2.2, ex := (.call 28 (.cons (.v 8) (.cons (.v 4) .nil))) }
def l_4 : LamI := { own := 42, q := lamQ "_law_right", params := (lamAt 4).1, body := (lamAt 4).2.1, scope := (lamAt 4).2.2, ex := (.call 29 (.cons (.v 3) (.cons (.v 4) .nil))) }
def l_5 : LamI := { own := 42, q := lamQ "_law_right", params := (lamAt 5).1, body := (lamAt 5).2.1, scope := (lamAt 5).2.2, ex := (.call 29 (.cons (.v 8) (.cons (.v 4) .nil))) }
def l_6 : LamI := { own := 42, q := lamQ "_law_right", params := (lamAt 6).1, body := (lamAt 6).2.1, scope := (lamAt 6).2.2, ex := (.call 29 (.cons (.v 8) (.cons (.tup .nil) .nil))) }
def l_7 : LamI := { own := 42, q := lamQ "_law_right", params := (lamAt 7).1, body := (lamAt 7).2.1, scope := (lamAt 7).2.2, ex := (.call 29 (.cons (.tup .nil) (.cons (.tup .nil) .nil))) }
def l_8 : LamI := { own := 42, q := lamQ "_law_right", params := (lamAt 8).1, body := (lamAt 8).2.1, scope := (lamAt 8).2.2, ex := (.call 30 (.cons (.v 3) (.cons (.v 4) .nil))) }
def l_9 : LamI := { own := 42, q := lamQ "_law_right", params := (lamAt 9).1, body := (lamAt 9).2.1, scope := (lamAt 9).2.2, ex := (.call 30 (.cons (.tup .nil) (.cons (.tup .nil) .nil))) }
def l_10 : LamI := { own := 42, q := lamQ "_law_right", params := (lamAt 10).1, body := (lamAt 10).2.1, scope := (lamAt 10).2.2, ex := (.call 32 (.cons (.v 3) .nil)) }
def l_11 : LamI := { own := 42, q := lamQ "_law_right", params := (lamAt 11).1, body := (lamAt 11).2.1, scope := (lamAt 11).2.2, ex := (.call 35 (.cons (.v 3) .nil)) }
def l_12 : LamI := { own := 42, q := lamQ "_law_right", params := (lamAt 12).1, body := (lamAt 12).2.1, scope := (lamAt 12).2.2, ex := (.call 31 (.cons (.v 3) (.cons (.v 5) .nil))) }
def l_13 : LamI := { own := 42, q := lamQ "_law_right", params := (lamAt 13).1, body := (lamAt 13).2.1, scope := (lamAt 13).2.2, ex := (.call 31 (.cons (.v 8) (.cons (.v 5) .nil))) }
def l_14 : LamI := { own := 42, q := lamQ "_law_right", params := (lamAt 14).1, body := (lamAt 14).2.1, scope := (lamAt 14).2.2, ex := (.call 33 (.cons (.v 3) (.cons (.v 7) .nil))) }
def l_15 : LamI := { own := 42, q := lamQ "_law_right", params := (lamAt 15).1, body := (lamAt 15).2.1, scope := (lamAt 15).2.2, ex := (.call 33 (.cons (.v 8) (.cons (.v 7) .nil))) }
def ls : List LamI := [l_0, l_1, l_2, l_3, l_4, l_5, l_6, l_7, l_8, l_9, l_10, l_11, l_12, l_13, l_14, l_15]
def cs : List ClsI := [⟨"LoopError", [0, 1, 2, 3]⟩, ⟨"BadNumber", [1]⟩, ⟨"TooMany", [2]⟩, ⟨"BadPoly", [3]⟩]
def G (x : Str) : Option PyData := if x = "BEYOND" then some c_BEYOND else if x = "MOST_DEGREE" then some (.int 20) else if x = "MOST_POWER" then some (.int 20) else if x = "NOTHING" then some (.tuple [(.int 0), (.int 1)]) else if x = "ONE" then some (.tuple [(.int 1), (.int 1)]) else none
def im (x : Str) : Option String := if x = "gcd" then some "math.gcd" else none
def bl : List Str := ["ValueError", "abs", "all", "bool", "enumerate", "int", "isinstance", "len", "list", "max", "min", "range", "repr", "sum", "super", "tuple", "zip"]
abbrev g : Stat := statOf ds ls cs G im bl
theorem s_is_integer : DefS g i_is_integer := ⟨⟨rfl, rfl, rfl, by decide +kernel, rfl, by decide +kernel, by decide +kernel⟩, by decide +kernel, rfl, rfl, fun _ _ _ _ _ _ us hl => match us, hl with | [_], _ => rfl, fun z => nomatch z⟩
theorem s_is_between : DefS g i_is_between := ⟨⟨rfl, rfl, rfl, by decide +kernel, rfl, by decide +kernel, by decide +kernel⟩, by decide +kernel, rfl, rfl, fun _ _ _ _ _ _ us hl => match us, hl with | [_, _, _], _ => rfl, fun z => nomatch z⟩
theorem s_common : DefS g i_common := ⟨⟨rfl, rfl, rfl, by decide +kernel, rfl, by decide +kernel, by decide +kernel⟩, by decide +kernel, rfl, rfl, fun _ _ _ _ _ _ us hl => match us, hl with | [_, _], _ => rfl, fun z => nomatch z⟩
theorem s_reduced : DefS g i_reduced := ⟨⟨rfl, rfl, rfl, by decide +kernel, rfl, by decide +kernel, by decide +kernel⟩, by decide +kernel, rfl, rfl, fun _ _ _ _ _ _ us hl => match us, hl with | [_, _], _ => rfl, fun z => nomatch z⟩
theorem s_is_fraction : DefS g i_is_fraction := ⟨⟨rfl, rfl, rfl, by decide +kernel, rfl, by decide +kernel, by decide +kernel⟩, by decide +kernel, rfl, rfl, fun _ _ _ _ _ _ us hl => match us, hl with | [_], _ => rfl, fun z => nomatch z⟩
theorem s_is_told_fraction : DefS g i_is_told_fraction := ⟨⟨rfl, rfl, rfl, by decide +kernel, rfl, by decide +kernel, by decide +kernel⟩, by decide +kernel, rfl, rfl, fun _ _ _ _ _ _ us hl => match us, hl with | [_], _ => rfl, fun z => nomatch z⟩
theorem s_added : DefS g i_added := ⟨⟨rfl, rfl, rfl, by decide +kernel, rfl, by decide +kernel, by decide +kernel⟩, by decide +kernel, rfl, rfl, fun _ _ _ _ _ _ us hl => match us, hl with | [_, _], _ => rfl, fun z => nomatch z⟩
theorem s_difference : DefS g i_difference := ⟨⟨rfl, rfl, rfl, by decide +kernel, rfl, by decide +kernel, by decide +kernel⟩, by decide +kernel, rfl, rfl, fun _ _ _ _ _ _ us hl => match us, hl with | [_, _], _ => rfl, fun z => nomatch z⟩
theorem s_product_of : DefS g i_product_of := ⟨⟨rfl, rfl, rfl, by decide +kernel, rfl, by decide +kernel, by decide +kernel⟩, by decide +kernel, rfl, rfl, fun _ _ _ _ _ _ us hl => match us, hl with | [_, _], _ => rfl, fun z => nomatch z⟩
theorem s_quotient : DefS g i_quotient := ⟨⟨rfl, rfl, rfl, by decide +kernel, rfl, by decide +kernel, by decide +kernel⟩, by decide +kernel, rfl, rfl, fun _ _ _ _ _ _ us hl => match us, hl with | [_, _], _ => rfl, fun z => nomatch z⟩
theorem s_integer_text : DefS g i_integer_text := ⟨⟨rfl, rfl, rfl, by decide +kernel, rfl, by decide +kernel, by decide +kernel⟩, by decide +kernel, rfl, rfl, fun _ _ _ _ _ _ us hl => match us, hl with | [_], _ => rfl, fun z => nomatch z⟩
theorem s_fraction_text : DefS g i_fraction_text := ⟨⟨rfl, rfl, rfl, by decide +kernel, rfl, by decide +kernel, by decide +kernel⟩, by decide +kernel, rfl, rfl, fun _ _ _ _ _ _ us hl => match us, hl with | [_], _ => rfl, fun z => nomatch z⟩
theorem s_is_poly : DefS g i_is_poly := ⟨⟨rfl, rfl, rfl, by decide +kernel, rfl, by decide +kernel, by decide +kernel⟩, by decide +kernel, rfl, rfl, fun _ _ _ _ _ _ us hl => match us, hl with | [_], _ => rfl, fun z => nomatch z⟩
theorem s_check_poly : DefS g i_check_poly := ⟨⟨rfl, rfl, rfl, by decide +kernel, rfl, by decide +kernel, by decide +kernel⟩, by decide +kernel, rfl, rfl, fun _ _ _ _ _ _ us hl => match us, hl with | [_], _ => rfl, fun z => nomatch z⟩
theorem s_check_two_polys : DefS g i_check_two_polys := ⟨⟨rfl, rfl, rfl, by decide +kernel, rfl, by decide +kernel, by decide +kernel⟩, by decide +kernel, rfl, rfl, fun _ _ _ _ _ _ us hl => match us, hl with | [_, _], _ => rfl, fun z => nomatch z⟩
theorem s_trimmed : DefS g i_trimmed := ⟨⟨rfl, rfl, rfl, by decide +kernel, rfl, by decide +kernel, by decide +kernel⟩, by decide +kernel, rfl, rfl, fun _ _ _ _ _ _ us hl => match us, hl with | [_], _ => rfl, fun z => nomatch z⟩
theorem s_degree_of : DefS g i_degree_of := ⟨⟨rfl, rfl, rfl, by decide +kernel, rfl, by decide +kernel, by decide +kernel⟩, by decide +kernel, rfl, rfl, fun _ _ _ _ _ _ us hl => match us, hl with | [_], _ => rfl, fun z => nomatch z⟩
theorem s_number_at : DefS g i_number_at := ⟨⟨rfl, rfl, rfl, by decide +kernel, rfl, by decide +kernel, by decide +kernel⟩, by decide +kernel, rfl, rfl, fun _ _ _ _ _ _ us hl => match us, hl with | [_, _], _ => rfl, fun z => nomatch z⟩
theorem s_poly_plus : DefS g i_poly_plus := ⟨⟨rfl, rfl, rfl, by decide +kernel, rfl, by decide +kernel, by decide +kernel⟩, by decide +kernel, rfl, rfl, fun _ _ _ _ _ _ us hl => match us, hl with | [_, _], _ => rfl, fun z => nomatch z⟩
theorem s_poly_less : DefS g i_poly_less := ⟨⟨rfl, rfl, rfl, by decide +kernel, rfl, by decide +kernel, by decide +kernel⟩, by decide +kernel, rfl, rfl, fun _ _ _ _ _ _ us hl => match us, hl with | [_, _], _ => rfl, fun z => nomatch z⟩
theorem s_poly_by_number : DefS g i_poly_by_number := ⟨⟨rfl, rfl, rfl, by decide +kernel, rfl, by decide +kernel, by decide +kernel⟩, by decide +kernel, rfl, rfl, fun _ _ _ _ _ _ us hl => match us, hl with | [_, _], _ => rfl, fun z => nomatch z⟩
theorem s_poly_times : DefS g i_poly_times := ⟨⟨rfl, rfl, rfl, by decide +kernel, rfl, by decide +kernel, by decide +kernel⟩, by decide +kernel, rfl, rfl, fun _ _ _ _ _ _ us hl => match us, hl with | [_, _], _ => rfl, fun z => nomatch z⟩
theorem s_poly_power : DefS g i_poly_power := ⟨⟨rfl, rfl, rfl, by decide +kernel, rfl, by decide +kernel, by decide +kernel⟩, by decide +kernel, rfl, rfl, fun _ _ _ _ _ _ us hl => match us, hl with | [_, _], _ => rfl, fun z => nomatch z⟩
theorem s_slope_of : DefS g i_slope_of := ⟨⟨rfl, rfl, rfl, by decide +kernel, rfl, by decide +kernel, by decide +kernel⟩, by decide +kernel, rfl, rfl, fun _ _ _ _ _ _ us hl => match us, hl with | [_], _ => rfl, fun z => nomatch z⟩
theorem s_value_at : DefS g i_value_at := ⟨⟨rfl, rfl, rfl, by decide +kernel, rfl, by decide +kernel, by decide +kernel⟩, by decide +kernel, rfl, rfl, fun _ _ _ _ _ _ us hl => match us, hl with | [_, _], _ => rfl, fun z => nomatch z⟩
theorem s_divided : DefS g i_divided := ⟨⟨rfl, rfl, rfl, by decide +kernel, rfl, by decide +kernel, by decide +kernel⟩, by decide +kernel, rfl, rfl, fun _ _ _ _ _ _ us hl => match us, hl with | [_, _], _ => rfl, fun z => nomatch z⟩
theorem s_led_common : DefS g i_led_common := ⟨⟨rfl, rfl, rfl, by decide +kernel, rfl, by decide +kernel, by decide +kernel⟩, by decide +kernel, rfl, rfl, fun _ _ _ _ _ _ us hl => match us, hl with | [_, _], _ => rfl, fun z => nomatch z⟩
theorem s_poly_sum : DefS g i_poly_sum := ⟨⟨rfl, rfl, rfl, by decide +kernel, rfl, by decide +kernel, by decide +kernel⟩, by decide +kernel, rfl, rfl, fun _ _ _ _ _ _ us hl => match us, hl with | [_, _], _ => rfl, fun z => nomatch z⟩
theorem s_poly_product : DefS g i_poly_product := ⟨⟨rfl, rfl, rfl, by decide +kernel, rfl, by decide +kernel, by decide +kernel⟩, by decide +kernel, rfl, rfl, fun _ _ _ _ _ _ us hl => match us, hl with | [_, _], _ => rfl, fun z => nomatch z⟩
theorem s_poly_divided : DefS g i_poly_divided := ⟨⟨rfl, rfl, rfl, by decide +kernel, rfl, by decide +kernel, by decide +kernel⟩, by decide +kernel, rfl, rfl, fun _ _ _ _ _ _ us hl => match us, hl with | [_, _], _ => rfl, fun z => nomatch z⟩
theorem s_poly_common : DefS g i_poly_common := ⟨⟨rfl, rfl, rfl, by decide +kernel, rfl, by decide +kernel, by decide +kernel⟩, by decide +kernel, rfl, rfl, fun _ _ _ _ _ _ us hl => match us, hl with | [_, _], _ => rfl, fun z => nomatch z⟩
theorem s_poly_value : DefS g i_poly_value := ⟨⟨rfl, rfl, rfl, by decide +kernel, rfl, by decide +kernel, by decide +kernel⟩, by decide +kernel, rfl, rfl, fun _ _ _ _ _ _ us hl => match us, hl with | [_, _], _ => rfl, fun z => nomatch z⟩
theorem s_poly_slope : DefS g i_poly_slope := ⟨⟨rfl, rfl, rfl, by decide +kernel, rfl, by decide +kernel, by decide +kernel⟩, by decide +kernel, rfl, rfl, fun _ _ _ _ _ _ us hl => match us, hl with | [_], _ => rfl, fun z => nomatch z⟩
theorem s_poly_raised : DefS g i_poly_raised := ⟨⟨rfl, rfl, rfl, by decide +kernel, rfl, by decide +kernel, by decide +kernel⟩, by decide +kernel, rfl, rfl, fun _ _ _ _ _ _ us hl => match us, hl with | [_, _], _ => rfl, fun z => nomatch z⟩
theorem s_power_text : DefS g i_power_text := ⟨⟨rfl, rfl, rfl, by decide +kernel, rfl, by decide +kernel, by decide +kernel⟩, by decide +kernel, rfl, rfl, fun _ _ _ _ _ _ us hl => match us, hl with | [_], _ => rfl, fun z => nomatch z⟩
theorem s_poly_text : DefS g i_poly_text := ⟨⟨rfl, rfl, rfl, by decide +kernel, rfl, by decide +kernel, by decide +kernel⟩, by decide +kernel, rfl, rfl, fun _ _ _ _ _ _ us hl => match us, hl with | [_], _ => rfl, fun z => nomatch z⟩
theorem s_text_of_poly : DefS g i_text_of_poly := ⟨⟨rfl, rfl, rfl, by decide +kernel, rfl, by decide +kernel, by decide +kernel⟩, by decide +kernel, rfl, rfl, fun _ _ _ _ _ _ us hl => match us, hl with | [_], _ => rfl, fun z => nomatch z⟩
theorem s_law_pot : DefS g i_law_pot := ⟨⟨rfl, rfl, rfl, by decide +kernel, rfl, by decide +kernel, by decide +kernel⟩, by decide +kernel, rfl, rfl, fun _ _ _ _ _ _ us hl => match us, hl with | [_, _], _ => rfl, fun z => nomatch z⟩
theorem s_law_cells : DefS g i_law_cells := ⟨⟨rfl, rfl, rfl, by decide +kernel, rfl, by decide +kernel, by decide +kernel⟩, by decide +kernel, rfl, rfl, fun _ _ _ _ _ _ us hl => match us, hl with | [_, _], _ => rfl, fun z => nomatch z⟩
theorem s_law_heard : DefS g i_law_heard := ⟨⟨rfl, rfl, rfl, by decide +kernel, rfl, by decide +kernel, by decide +kernel⟩, by decide +kernel, rfl, rfl, fun _ _ _ _ _ _ us hl => match us, hl with | [_], _ => rfl, fun z => nomatch z⟩
theorem s_law_take : DefS g i_law_take := ⟨⟨rfl, rfl, rfl, by decide +kernel, rfl, by decide +kernel, by decide +kernel⟩, by decide +kernel, rfl, rfl, fun _ _ _ _ _ _ us hl => match us, hl with | [_, _], _ => rfl, fun z => nomatch z⟩
theorem s_law_of : DefS g i_law_of := ⟨⟨rfl, rfl, rfl, by decide +kernel, rfl, by decide +kernel, by decide +kernel⟩, by decide +kernel, rfl, rfl, fun _ _ _ _ _ _ us hl => match us, hl with | [_, _], _ => rfl, fun z => nomatch z⟩
theorem s_law_right : DefS g i_law_right := ⟨⟨rfl, rfl, rfl, by decide +kernel, rfl, by decide +kernel, by decide +kernel⟩, by decide +kernel, rfl, rfl, fun _ _ _ _ _ _ us hl => match us, hl with | [_], _ => rfl, fun z => nomatch z⟩
theorem s_law : DefS g i_law := ⟨⟨rfl, rfl, rfl, by decide +kernel, rfl, by decide +kernel, by decide +kernel⟩, by decide +kernel, rfl, rfl, fun _ _ _ _ _ _ us hl => match us, hl with | [_], _ => rfl, fun z => nomatch z⟩
theorem lw_0 : LamW g ds l_0 := ⟨i_law_right, rfl, rfl, by decide +kernel, rfl, by decide +kernel, by decide +kernel⟩
theorem lw_1 : LamW g ds l_1 := ⟨i_law_right, rfl, rfl, by decide +kernel, rfl, by decide +kernel, by decide +kernel⟩
theorem lw_2 : LamW g ds l_2 := ⟨i_law_right, rfl, rfl, by decide +kernel, rfl, by decide +kernel, by decide +kernel⟩
theorem lw_3 : LamW g ds l_3 := ⟨i_law_right, rfl, rfl, by decide +kernel, rfl, by decide +kernel, by decide +kernel⟩
theorem lw_4 : LamW g ds l_4 := ⟨i_law_right, rfl, rfl, by decide +kernel, rfl, by decide +kernel, by decide +kernel⟩
theorem lw_5 : LamW g ds l_5 := ⟨i_law_right, rfl, rfl, by decide +kernel, rfl, by decide +kernel, by decide +kernel⟩
theorem lw_6 : LamW g ds l_6 := ⟨i_law_right, rfl, rfl, by decide +kernel, rfl, by decide +kernel, by decide +kernel⟩
theorem lw_7 : LamW g ds l_7 := ⟨i_law_right, rfl, rfl, by decide +kernel, rfl, by decide +kernel, by decide +kernel⟩
theorem lw_8 : LamW g ds l_8 := ⟨i_law_right, rfl, rfl, by decide +kernel, rfl, by decide +kernel, by decide +kernel⟩
theorem lw_9 : LamW g ds l_9 := ⟨i_law_right, rfl, rfl, by decide +kernel, rfl, by decide +kernel, by decide +kernel⟩
theorem lw_10 : LamW g ds l_10 := ⟨i_law_right, rfl, rfl, by decide +kernel, rfl, by decide +kernel, by decide +kernel⟩
theorem lw_11 : LamW g ds l_11 := ⟨i_law_right, rfl, rfl, by decide +kernel, rfl, by decide +kernel, by decide +kernel⟩
theorem lw_12 : LamW g ds l_12 := ⟨i_law_right, rfl, rfl, by decide +kernel, rfl, by decide +kernel, by decide +kernel⟩
theorem lw_13 : LamW g ds l_13 := ⟨i_law_right, rfl, rfl, by decide +kernel, rfl, by decide +kernel, by decide +kernel⟩
theorem lw_14 : LamW g ds l_14 := ⟨i_law_right, rfl, rfl, by decide +kernel, rfl, by decide +kernel, by decide +kernel⟩
theorem lw_15 : LamW g ds l_15 := ⟨i_law_right, rfl, rfl, by decide +kernel, rfl, by decide +kernel, by decide +kernel⟩
end K35
set_option Elab.async false
set_option maxRecDepth 100000
set_option linter.unusedVariables false
/-! from the top's facts to the law -/
namespace K35
open PySem PySem.Spec PyProof.Rows L2 Pv
/-- a def as the top has written it -/
def Def1 (K : PySem.W.Frag) (i : DefI) : Prop := ∃ (f : Addr) (fd : FuncData), PySem.W.nsIn K mainGlobals i.name = some (some (.ref f)) ∧ Fun K i.name i.name i.st f fd
theorem def1_mk {K : PySem.W.Frag} {h : Heap} (KX : K.In h) (i : DefI) {f : Addr} {od an : Option Addr} {sl : Array (Option Value)} {oc kV dc pm cd ct : Value} (a : PySem.W.nsIn K mainGlobals i.name = some (some (.ref f)))
    (l : K.lookup f = some ⟨oc, od, .func (PySem.W.fnOf i.name i.name (defArgs i.st) (defBody i.st) (defScope i.st) .none kV dc pm an cd ct), sl⟩) (c : PySem.W.codeIn K cd i.name = true) (k : PySem.W.keepIn K (.ref f) = true) : Def1 K i :=
  ⟨f, _, a, fun_mk l c k⟩
theorem all_s : ∀ (k : Nat) (i : DefI), ds[k]? = some i → DefS g i := by
  have key : ∀ l : List DefI, (∀ i ∈ l, DefS g i) → ∀ (k : Nat) (i : DefI), l[k]? = some i → DefS g i := fun l h k i e => h i (List.mem_of_getElem? e)
  refine key ds fun i hi => ?_
  simp only [ds, List.mem_cons, List.not_mem_nil, or_false] at hi
  rcases hi with rfl | rfl | rfl | rfl | rfl | rfl | rfl | rfl | rfl | rfl | rfl | rfl | rfl | rfl | rfl | rfl | rfl | rfl | rfl | rfl | rfl | rfl | rfl | rfl | rfl | rfl | rfl | rfl | rfl | rfl | rfl | rfl | rfl | rfl | rfl | rfl | rfl | rfl | rfl | rfl | rfl | rfl | rfl | rfl
  · exact s_is_integer
  · exact s_is_between
  · exact s_common
  · exact s_reduced
  · exact s_is_fraction
  · exact s_is_told_fraction
  · exact s_added
  · exact s_difference
  · exact s_product_of
  · exact s_quotient
  · exact s_integer_text
  · exact s_fraction_text
  · exact s_is_poly
  · exact s_check_poly
  · exact s_check_two_polys
  · exact s_trimmed
  · exact s_degree_of
  · exact s_number_at
  · exact s_poly_plus
  · exact s_poly_less
  · exact s_poly_by_number
  · exact s_poly_times
  · exact s_poly_power
  · exact s_slope_of
  · exact s_value_at
  · exact s_divided
  · exact s_led_common
  · exact s_poly_sum
  · exact s_poly_product
  · exact s_poly_divided
  · exact s_poly_common
  · exact s_poly_value
  · exact s_poly_slope
  · exact s_poly_raised
  · exact s_power_text
  · exact s_poly_text
  · exact s_text_of_poly
  · exact s_law_pot
  · exact s_law_cells
  · exact s_law_heard
  · exact s_law_take
  · exact s_law_of
  · exact s_law_right
  · exact s_law
theorem all_l : ∀ (k : Nat) (i : LamI), ls[k]? = some i → LamW g ds i := by
  have key : ∀ l : List LamI, (∀ i ∈ l, LamW g ds i) → ∀ (k : Nat) (i : LamI), l[k]? = some i → LamW g ds i := fun l h k i e => h i (List.mem_of_getElem? e)
  refine key ls fun i hi => ?_
  simp only [ls, List.mem_cons, List.not_mem_nil, or_false] at hi
  rcases hi with rfl | rfl | rfl | rfl | rfl | rfl | rfl | rfl | rfl | rfl | rfl | rfl | rfl | rfl | rfl | rfl
  · exact lw_0
  · exact lw_1
  · exact lw_2
  · exact lw_3
  · exact lw_4
  · exact lw_5
  · exact lw_6
  · exact lw_7
  · exact lw_8
  · exact lw_9
  · exact lw_10
  · exact lw_11
  · exact lw_12
  · exact lw_13
  · exact lw_14
  · exact lw_15
theorem all_me : ∀ (k : Nat) (i : DefI) (j' : Nat), ds[k]? = some i → i.fn.md = .me j' → k = 42 ∧ j' = 42 := by
  have key : ∀ (l : List DefI) (n : Nat), (l.zipIdx n).all (fun p => match p.1.fn.md with | .me j' => p.2 == 42 && j' == 42 | _ => true) = true → ∀ (k : Nat) (i : DefI) (j' : Nat), l[k]? = some i → i.fn.md = .me j' → n + k = 42 ∧ j' = 42 := by
    intro l
    induction l with
    | nil => intro n _ k i j' h; simp at h
    | cons a l ih =>
      intro n h k i j' h1 h2
      simp only [List.zipIdx_cons, List.all_cons, Bool.and_eq_true] at h
      cases k with
      | zero =>
        simp only [List.getElem?_cons_zero, Option.some.injEq] at h1
        subst h1
        have z := h.1
        rw [h2] at z
        simpa using z
      | succ k =>
        obtain ⟨z1, z2⟩ := ih (n + 1) h.2 k i j' (by simpa using h1) h2
        exact ⟨by omega, z2⟩
  intro k i j' h1 h2
  have z := key ds 0 (by rfl) k i j' h1 h2
  rwa [Nat.zero_add] at z
def qI (n : Nat) : Pos := match n with | 0 => ⟨6, 8, 6, 13⟩ | 1 => ⟨6, 8, 6, 15⟩ | 2 => ⟨6, 8, 6, 24⟩ | 3 => ⟨6, 25, 6, 30⟩ | 4 => ⟨6, 8, 6, 31⟩ | 5 => ⟨6, 8, 6, 31⟩ | 6 => ⟨7, 8, 7, 12⟩ | 7 => ⟨7, 8, 7, 18⟩ | 8 => ⟨7, 21, 7, 26⟩ | _ => ⟨7, 8, 7, 26⟩
theorem all_k {P q : Program} {w : World} {K : PySem.W.Frag} {h : Heap} {mg : Str → Option Value} (KX : K.In h) (Gs : h.Ns mainGlobals mg)
    {fR cR tR : Addr} {odR anR : Option Addr} {slR : Array (Option Value)} {ocR kVR dcR pmR ctR ceR : Value} {cdR : Option Addr} {vR : Array Value} {csR : Array (Option Value)}
    {t_BEYOND : Tok} {z_BEYOND_ : Int}
    {t_MOST_DEGREE : Tok} {z_MOST_DEGREE_ : Int}
    {t_MOST_POWER : Tok} {z_MOST_POWER_ : Int}
    {a_NOTHING : Addr} {o_NOTHING : Obj} {v_NOTHING : Array Value} {n_NOTHING : Nat} {u_NOTHING_0 u_NOTHING_1 : Tok}
    {a_ONE : Addr} {o_ONE : Obj} {v_ONE : Array Value} {n_ONE : Nat} {u_ONE_0 u_ONE_1 : Tok}
    {C0 N0 : Addr} {nm0 q0 : Str} {bs0 : List Value} {sn0 : List Str} {su0 : List Value} {ab0 : Bool} {co0 : Option Bool} {dd0 : Option Addr} {m00 m10 m20 m30 m50 : Option Value}
    {C1 N1 : Addr} {nm1 q1 : Str} {bs1 : List Value} {sn1 : List Str} {su1 : List Value} {ab1 : Bool} {co1 : Option Bool} {dd1 : Option Addr} {m01 m11 m21 m31 m51 : Option Value}
    {C2 N2 : Addr} {nm2 q2 : Str} {bs2 : List Value} {sn2 : List Str} {su2 : List Value} {ab2 : Bool} {co2 : Option Bool} {dd2 : Option Addr} {m02 m12 m22 m32 m52 : Option Value}
    {C3 N3 : Addr} {nm3 q3 : Str} {bs3 : List Value} {sn3 : List Str} {su3 : List Value} {ab3 : Bool} {co3 : Option Bool} {dd3 : Option Addr} {m03 m13 m23 m33 m53 : Option Value}
    {fI cI ccI : Addr} {ocI dcI pmI ctI ceI clI : Value} {odI anI cdI ldI : Option Addr} {slI csI lsI : Array (Option Value)} {vI : Array Value} {qI_ fileI : Str} {tfI : Tok}
    (h_is_integer : Def1 K i_is_integer)
    (h_is_between : Def1 K i_is_between)
    (h_common : Def1 K i_common)
    (h_reduced : Def1 K i_reduced)
    (h_is_fraction : Def1 K i_is_fraction)
    (h_is_told_fraction : Def1 K i_is_told_fraction)
    (h_added : Def1 K i_added)
    (h_difference : Def1 K i_difference)
    (h_product_of : Def1 K i_product_of)
    (h_quotient : Def1 K i_quotient)
    (h_integer_text : Def1 K i_integer_text)
    (h_fraction_text : Def1 K i_fraction_text)
    (h_is_poly : Def1 K i_is_poly)
    (h_check_poly : Def1 K i_check_poly)
    (h_check_two_polys : Def1 K i_check_two_polys)
    (h_trimmed : Def1 K i_trimmed)
    (h_degree_of : Def1 K i_degree_of)
    (h_number_at : Def1 K i_number_at)
    (h_poly_plus : Def1 K i_poly_plus)
    (h_poly_less : Def1 K i_poly_less)
    (h_poly_by_number : Def1 K i_poly_by_number)
    (h_poly_times : Def1 K i_poly_times)
    (h_poly_power : Def1 K i_poly_power)
    (h_slope_of : Def1 K i_slope_of)
    (h_value_at : Def1 K i_value_at)
    (h_divided : Def1 K i_divided)
    (h_led_common : Def1 K i_led_common)
    (h_poly_sum : Def1 K i_poly_sum)
    (h_poly_product : Def1 K i_poly_product)
    (h_poly_divided : Def1 K i_poly_divided)
    (h_poly_common : Def1 K i_poly_common)
    (h_poly_value : Def1 K i_poly_value)
    (h_poly_slope : Def1 K i_poly_slope)
    (h_poly_raised : Def1 K i_poly_raised)
    (h_power_text : Def1 K i_power_text)
    (h_poly_text : Def1 K i_poly_text)
    (h_text_of_poly : Def1 K i_text_of_poly)
    (h_law_pot : Def1 K i_law_pot)
    (h_law_cells : Def1 K i_law_cells)
    (h_law_heard : Def1 K i_law_heard)
    (h_law_take : Def1 K i_law_take)
    (h_law_of : Def1 K i_law_of)
    (h_law : Def1 K i_law)
    (aR : PySem.W.nsIn K mainGlobals i_law_right.name = some (some (.ref fR)))
    (lR : K.lookup fR = some ⟨ocR, odR, .func (PySem.W.fnOf i_law_right.name i_law_right.name (defArgs i_law_right.st) (defBody i_law_right.st) (defScope i_law_right.st) .none kVR dcR pmR anR (.ref cR) ctR), slR⟩)
    (cR_ : PySem.W.codeIn K (.ref cR) i_law_right.name = true)
    (kR : PySem.W.keepIn K (.ref fR) = true)
    (mR : K.lookup cR = some ⟨ceR, cdR, .fields vR, csR⟩)
    (vR_ : vR[11]? = some (.ref tR))
    (hR : PySem.W.codeHdIn K cR tR = true)
    (nR : K.lookup tR = none)
    (g_BEYOND : PySem.W.nsIn K mainGlobals "BEYOND" = some (some (.int z_BEYOND_ t_BEYOND)))
    (e_BEYOND : z_BEYOND_ = z_BEYOND)
    (g_MOST_DEGREE : PySem.W.nsIn K mainGlobals "MOST_DEGREE" = some (some (.int z_MOST_DEGREE_ t_MOST_DEGREE)))
    (e_MOST_DEGREE : z_MOST_DEGREE_ = 20)
    (g_MOST_POWER : PySem.W.nsIn K mainGlobals "MOST_POWER" = some (some (.int z_MOST_POWER_ t_MOST_POWER)))
    (e_MOST_POWER : z_MOST_POWER_ = 20)
    (g_NOTHING : PySem.W.nsIn K mainGlobals "NOTHING" = some (some (.ref a_NOTHING)))
    (l_NOTHING_ : K.lookup a_NOTHING = some o_NOTHING)
    (c_NOTHING_ : o_NOTHING.cls = .type "tuple")
    (d_NOTHING_ : o_NOTHING.data = .seq v_NOTHING n_NOTHING)
    (e_NOTHING_ : v_NOTHING = #[.int 0 u_NOTHING_0, .int 1 u_NOTHING_1])
    (g_ONE : PySem.W.nsIn K mainGlobals "ONE" = some (some (.ref a_ONE)))
    (l_ONE_ : K.lookup a_ONE = some o_ONE)
    (c_ONE_ : o_ONE.cls = .type "tuple")
    (d_ONE_ : o_ONE.data = .seq v_ONE n_ONE)
    (e_ONE_ : v_ONE = #[.int 1 u_ONE_0, .int 1 u_ONE_1])
    (m_gcd : PySem.W.nsIn K mainGlobals "gcd" = some (some (.builtin "math.gcd")))
    (bl_ : ∀ x ∈ bl, PySem.W.nsIn K mainGlobals x = some none)
    (y0 : PySem.W.nsIn K mainGlobals "LoopError" = some (some (.ref C0)))
    (y1 : PySem.W.nsIn K mainGlobals "BadNumber" = some (some (.ref C1)))
    (y2 : PySem.W.nsIn K mainGlobals "TooMany" = some (some (.ref C2)))
    (y3 : PySem.W.nsIn K mainGlobals "BadPoly" = some (some (.ref C3)))
    (x0 : K.lookup C0 = some (excClassObj nm0 q0 C0 N0 bs0 [.type "ValueError", .type "Exception", .type "BaseException", .type "object"] true sn0 su0 ab0 co0 dd0 m00 m10 m20 m30 m50 "ValueError.__new__"))
    (sa0 : PySem.W.findIn K (.ref C0) "__setattr__" = some (some (.builtin "object.__setattr__")))
    (ga0 : PySem.W.findIn K (.ref C0) "__getattribute__" = some (some (.builtin "BaseException.__getattribute__")))
    (gg0 : PySem.W.findIn K (.ref C0) "__getattr__" = some none)
    (no0 : PySem.W.findIn K (.ref C0) "value" = some none)
    (ii0 : PySem.W.findIn K (.ref C0) "__init__" = some (some (.ref fI)))
    (kk0 : PySem.W.keepIn K (.ref C0) = true)
    (eb0 : PySem.W.subIn K (.ref C0) (.type "BaseException") = some true)
    (ev0 : PySem.W.subIn K (.ref C0) (.type "ValueError") = some true)
    (ty0 : PySem.W.typeIn K (.ref C0) = some (.type "type"))
    (hd0 : PySem.W.hasDictIn K C0 = true)
    (sd0 : PySem.W.mroIn K C0 (.ref C0) = some true)
    (oc0 : PySem.W.findIn K (.ref C0) "__class__" = some (some (.builtin "object.__class__")))
    (mo0 : PySem.W.mroIn K C0 (.type "object") = some true)
    (x1 : K.lookup C1 = some (excClassObj nm1 q1 C1 N1 bs1 [.ref C0, .type "ValueError", .type "Exception", .type "BaseException", .type "object"] true sn1 su1 ab1 co1 dd1 m01 m11 m21 m31 m51 "ValueError.__new__"))
    (sa1 : PySem.W.findIn K (.ref C1) "__setattr__" = some (some (.builtin "object.__setattr__")))
    (ga1 : PySem.W.findIn K (.ref C1) "__getattribute__" = some (some (.builtin "BaseException.__getattribute__")))
    (gg1 : PySem.W.findIn K (.ref C1) "__getattr__" = some none)
    (no1 : PySem.W.findIn K (.ref C1) "value" = some none)
    (ii1 : PySem.W.findIn K (.ref C1) "__init__" = some (some (.ref fI)))
    (kk1 : PySem.W.keepIn K (.ref C1) = true)
    (eb1 : PySem.W.subIn K (.ref C1) (.type "BaseException") = some true)
    (ev1 : PySem.W.subIn K (.ref C1) (.type "ValueError") = some true)
    (ty1 : PySem.W.typeIn K (.ref C1) = some (.type "type"))
    (hd1 : PySem.W.hasDictIn K C1 = true)
    (sd1 : PySem.W.mroIn K C1 (.ref C0) = some true)
    (oc1 : PySem.W.findIn K (.ref C1) "__class__" = some (some (.builtin "object.__class__")))
    (mo1 : PySem.W.mroIn K C1 (.type "object") = some true)
    (x2 : K.lookup C2 = some (excClassObj nm2 q2 C2 N2 bs2 [.ref C0, .type "ValueError", .type "Exception", .type "BaseException", .type "object"] true sn2 su2 ab2 co2 dd2 m02 m12 m22 m32 m52 "ValueError.__new__"))
    (sa2 : PySem.W.findIn K (.ref C2) "__setattr__" = some (some (.builtin "object.__setattr__")))
    (ga2 : PySem.W.findIn K (.ref C2) "__getattribute__" = some (some (.builtin "BaseException.__getattribute__")))
    (gg2 : PySem.W.findIn K (.ref C2) "__getattr__" = some none)
    (no2 : PySem.W.findIn K (.ref C2) "value" = some none)
    (ii2 : PySem.W.findIn K (.ref C2) "__init__" = some (some (.ref fI)))
    (kk2 : PySem.W.keepIn K (.ref C2) = true)
    (eb2 : PySem.W.subIn K (.ref C2) (.type "BaseException") = some true)
    (ev2 : PySem.W.subIn K (.ref C2) (.type "ValueError") = some true)
    (ty2 : PySem.W.typeIn K (.ref C2) = some (.type "type"))
    (hd2 : PySem.W.hasDictIn K C2 = true)
    (sd2 : PySem.W.mroIn K C2 (.ref C0) = some true)
    (oc2 : PySem.W.findIn K (.ref C2) "__class__" = some (some (.builtin "object.__class__")))
    (mo2 : PySem.W.mroIn K C2 (.type "object") = some true)
    (x3 : K.lookup C3 = some (excClassObj nm3 q3 C3 N3 bs3 [.ref C0, .type "ValueError", .type "Exception", .type "BaseException", .type "object"] true sn3 su3 ab3 co3 dd3 m03 m13 m23 m33 m53 "ValueError.__new__"))
    (sa3 : PySem.W.findIn K (.ref C3) "__setattr__" = some (some (.builtin "object.__setattr__")))
    (ga3 : PySem.W.findIn K (.ref C3) "__getattribute__" = some (some (.builtin "BaseException.__getattribute__")))
    (gg3 : PySem.W.findIn K (.ref C3) "__getattr__" = some none)
    (no3 : PySem.W.findIn K (.ref C3) "value" = some none)
    (ii3 : PySem.W.findIn K (.ref C3) "__init__" = some (some (.ref fI)))
    (kk3 : PySem.W.keepIn K (.ref C3) = true)
    (eb3 : PySem.W.subIn K (.ref C3) (.type "BaseException") = some true)
    (ev3 : PySem.W.subIn K (.ref C3) (.type "ValueError") = some true)
    (ty3 : PySem.W.typeIn K (.ref C3) = some (.type "type"))
    (hd3 : PySem.W.hasDictIn K C3 = true)
    (sd3 : PySem.W.mroIn K C3 (.ref C0) = some true)
    (oc3 : PySem.W.findIn K (.ref C3) "__class__" = some (some (.builtin "object.__class__")))
    (mo3 : PySem.W.mroIn K C3 (.type "object") = some true)
    (tI : PySem.W.typeIn K (.ref fI) = some (.type "function"))
    (z0_0 : PySem.W.subIn K (.ref C0) (.ref C0) = some true)
    (z0_1 : PySem.W.subIn K (.ref C1) (.ref C0) = some true)
    (z0_2 : PySem.W.subIn K (.ref C2) (.ref C0) = some true)
    (z0_3 : PySem.W.subIn K (.ref C3) (.ref C0) = some true)
    (z1_0 : PySem.W.subIn K (.ref C0) (.ref C1) = some false)
    (z1_1 : PySem.W.subIn K (.ref C1) (.ref C1) = some true)
    (z1_2 : PySem.W.subIn K (.ref C2) (.ref C1) = some false)
    (z1_3 : PySem.W.subIn K (.ref C3) (.ref C1) = some false)
    (z2_0 : PySem.W.subIn K (.ref C0) (.ref C2) = some false)
    (z2_1 : PySem.W.subIn K (.ref C1) (.ref C2) = some false)
    (z2_2 : PySem.W.subIn K (.ref C2) (.ref C2) = some true)
    (z2_3 : PySem.W.subIn K (.ref C3) (.ref C2) = some false)
    (z3_0 : PySem.W.subIn K (.ref C0) (.ref C3) = some false)
    (z3_1 : PySem.W.subIn K (.ref C1) (.ref C3) = some false)
    (z3_2 : PySem.W.subIn K (.ref C2) (.ref C3) = some false)
    (z3_3 : PySem.W.subIn K (.ref C3) (.ref C3) = some true)
    (w1_0 : C0 ≠ C1)
    (w1_2 : C2 ≠ C1)
    (w1_3 : C3 ≠ C1)
    (w2_0 : C0 ≠ C2)
    (w2_1 : C1 ≠ C2)
    (w2_3 : C3 ≠ C2)
    (w3_0 : C0 ≠ C3)
    (w3_1 : C1 ≠ C3)
    (w3_2 : C2 ≠ C3)
    (hn : PySem.W.specialIn K (.builtin "object.__class__") "__get__" = some (some (.builtin "getset_descriptor.__get__")))
    (ht : PySem.W.takesIn K (.builtin "object.__class__") = some true)
    (lI : K.lookup fI = some ⟨ocI, odI, .func (PySem.W.ksFn "__init__" qI_ (Own.iA ⟨5, 17, 5, 21⟩ ⟨5, 23, 5, 28⟩) (Own.iB qI) Own.iS .none .none dcI pmI anI (.ref cI) ctI ccI), slI⟩)
    (cI_ : PySem.W.codeIn K (.ref cI) qI_ = true)
    (mI : K.lookup cI = some ⟨ceI, cdI, .fields vI, csI⟩)
    (vI_ : vI[2]? = some (.str fileI tfI))
    (fI_ : ((P.main.file : Str) == fileI) = true)
    (cellI : K.lookup ccI = some ⟨clI, ldI, .cell (some (.ref C0)), lsI⟩)
    (su_ : PySem.W.nsIn K mainGlobals "super" = some none)
    (an_ : PySem.W.nsIn K PySem.cStatics "thirdparty.any" = some none)
    (topI : (P.main.scope.names.lookup ("super" : Str)).isSome = false) (rec_ : ∃ dl ∈ recsOf q, dl.name = i_law_right.name) :
    HeadK g ds P q w K mg 42 := by
  have mk : ∀ i : DefI, Def1 K i → ∃ f fd, mg i.name = some (.ref f) ∧ Fun K i.name i.name i.st f fd := fun i ⟨f, fd, a, F⟩ => ⟨f, fd, PySem.W.mg_of KX Gs a, F⟩
  have h_law_right : Def1 K i_law_right := def1_mk KX i_law_right aR lR cR_ kR
  have T0 : ClsF K C0 C0 fI := cls_mk x0 (by first | rfl | decide +kernel) sa0 ga0 gg0 no0 ii0 tI kk0 eb0 ev0 ty0 hd0 sd0 (su_mk0 x0) oc0 mo0
  have T1 : ClsF K C0 C1 fI := cls_mk x1 (by first | rfl | decide +kernel) sa1 ga1 gg1 no1 ii1 tI kk1 eb1 ev1 ty1 hd1 sd1 (su_mk1 x1 w1_0) oc1 mo1
  have T2 : ClsF K C0 C2 fI := cls_mk x2 (by first | rfl | decide +kernel) sa2 ga2 gg2 no2 ii2 tI kk2 eb2 ev2 ty2 hd2 sd2 (su_mk1 x2 w2_0) oc2 mo2
  have T3 : ClsF K C0 C3 fI := cls_mk x3 (by first | rfl | decide +kernel) sa3 ga3 gg3 no3 ii3 tI kk3 eb3 ev3 ty3 hd3 sd3 (su_mk1 x3 w3_0) oc3 mo3
  have gs := PySem.W.mg_none_of KX Gs su_
  have TI : Own.InitTxt P K C0 fI := by
    refine ⟨⟨_, _, _, _, _, _, _, _, _, _, _, _, _, _, _, _, _, _, _, _, _, _, lI, cI_, mI, vI_, fI_, cellI, by rfl⟩, ?_, su_, an_, topI⟩
    have z : ((PySem.W.clsIn K C0).isSome) = true := (Bool.and_eq_true_iff.mp T0.isCls).1
    exact Option.isSome_iff_exists.mp z
  refine ⟨?_, ?_, fun x hx => PySem.W.mg_none_of KX Gs (bl_ x hx), ?_, ?_, all_me, ?_⟩
  · have key : ∀ l : List DefI, (∀ i ∈ l, Def1 K i) → ∀ (k : Nat) (i : DefI), l[k]? = some i → ∃ f fd, mg i.name = some (.ref f) ∧ Fun K i.name i.name i.st f fd := fun l h k i e => mk i (h i (List.mem_of_getElem? e))
    refine key ds fun i hi => ?_
    simp only [ds, List.mem_cons, List.not_mem_nil, or_false] at hi
    rcases hi with rfl | rfl | rfl | rfl | rfl | rfl | rfl | rfl | rfl | rfl | rfl | rfl | rfl | rfl | rfl | rfl | rfl | rfl | rfl | rfl | rfl | rfl | rfl | rfl | rfl | rfl | rfl | rfl | rfl | rfl | rfl | rfl | rfl | rfl | rfl | rfl | rfl | rfl | rfl | rfl | rfl | rfl | rfl | rfl
    · exact h_is_integer
    · exact h_is_between
    · exact h_common
    · exact h_reduced
    · exact h_is_fraction
    · exact h_is_told_fraction
    · exact h_added
    · exact h_difference
    · exact h_product_of
    · exact h_quotient
    · exact h_integer_text
    · exact h_fraction_text
    · exact h_is_poly
    · exact h_check_poly
    · exact h_check_two_polys
    · exact h_trimmed
    · exact h_degree_of
    · exact h_number_at
    · exact h_poly_plus
    · exact h_poly_less
    · exact h_poly_by_number
    · exact h_poly_times
    · exact h_poly_power
    · exact h_slope_of
    · exact h_value_at
    · exact h_divided
    · exact h_led_common
    · exact h_poly_sum
    · exact h_poly_product
    · exact h_poly_divided
    · exact h_poly_common
    · exact h_poly_value
    · exact h_poly_slope
    · exact h_poly_raised
    · exact h_power_text
    · exact h_poly_text
    · exact h_text_of_poly
    · exact h_law_pot
    · exact h_law_cells
    · exact h_law_heard
    · exact h_law_take
    · exact h_law_of
    · exact h_law_right
    · exact h_law
  · intro x dt hx
    have hx : G x = some dt := hx
    unfold G at hx
    split at hx
    · rename_i e; subst e
      cases hx
      exact ⟨_, .int _, PySem.W.mg_of KX Gs g_BEYOND, ⟨_, rfl⟩, fun H av => by rw [e_BEYOND]; exact Rep.int _⟩
    ·
      split at hx
      · rename_i e; subst e
        cases hx
        exact ⟨_, .int _, PySem.W.mg_of KX Gs g_MOST_DEGREE, ⟨_, rfl⟩, fun H av => by rw [e_MOST_DEGREE]; exact Rep.int _⟩
      ·
        split at hx
        · rename_i e; subst e
          cases hx
          exact ⟨_, .int _, PySem.W.mg_of KX Gs g_MOST_POWER, ⟨_, rfl⟩, fun H av => by rw [e_MOST_POWER]; exact Rep.int _⟩
        ·
          split at hx
          · rename_i e; subst e
            cases hx
            exact ⟨_, .ref a_NOTHING, PySem.W.mg_of KX Gs g_NOTHING, rfl, fun H av => Rep.tupK (vs := [.int 0, .int 1]) ⟨o_NOTHING, v_NOTHING, n_NOTHING, l_NOTHING_, c_NOTHING_, d_NOTHING_, by rw [e_NOTHING_]; show 2 ≤ sizeLine; decide, by rw [e_NOTHING_]; exact (.cons ⟨_, rfl⟩ (.cons ⟨_, rfl⟩ .nil))⟩ (.cons (.int _) (.cons (.int _) .nil))⟩
          ·
            split at hx
            · rename_i e; subst e
              cases hx
              exact ⟨_, .ref a_ONE, PySem.W.mg_of KX Gs g_ONE, rfl, fun H av => Rep.tupK (vs := [.int 1, .int 1]) ⟨o_ONE, v_ONE, n_ONE, l_ONE_, c_ONE_, d_ONE_, by rw [e_ONE_]; show 2 ≤ sizeLine; decide, by rw [e_ONE_]; exact (.cons ⟨_, rfl⟩ (.cons ⟨_, rfl⟩ .nil))⟩ (.cons (.int _) (.cons (.int _) .nil))⟩
            ·
              cases hx
  · intro x id hx
    have hx : im x = some id := hx
    unfold im at hx
    split at hx
    · rename_i e; subst e
      cases hx
      exact PySem.W.mg_of KX Gs m_gcd
    ·
      cases hx
  · refine ⟨fun k => [C0, C1, C2, C3][k]?, fun base _ => exc_ok (D := C0) (fI := fI) [C0, C1, C2, C3] TI gs hn ht ?_ ?_ ?_ base⟩
    · intro C hC
      simp only [List.mem_cons, List.not_mem_nil, or_false] at hC
      rcases hC with rfl | rfl | rfl | rfl
      · exact T0
      · exact T1
      · exact T2
      · exact T3
    · intro x k hx
      have hx : cs.findIdx? (fun c => decide (c.name = x)) = some k := hx
      obtain ⟨hk, h1, _⟩ := List.findIdx?_eq_some_iff_getElem.mp hx
      match k, hk, h1 with
      | 0, _, h1 =>
        have e : ("LoopError" : Str) = x := of_decide_eq_true h1
        subst e
        exact ⟨C0, rfl, PySem.W.mg_of KX Gs y0⟩
      | 1, _, h1 =>
        have e : ("BadNumber" : Str) = x := of_decide_eq_true h1
        subst e
        exact ⟨C1, rfl, PySem.W.mg_of KX Gs y1⟩
      | 2, _, h1 =>
        have e : ("TooMany" : Str) = x := of_decide_eq_true h1
        subst e
        exact ⟨C2, rfl, PySem.W.mg_of KX Gs y2⟩
      | 3, _, h1 =>
        have e : ("BadPoly" : Str) = x := of_decide_eq_true h1
        subst e
        exact ⟨C3, rfl, PySem.W.mg_of KX Gs y3⟩
      | k + 4, hk, _ => exact absurd hk (by simp [cs])
    · intro k k' C C' h1 h2
      match k, k' with
      | 0, 0 => cases h1; cases h2; exact ⟨z0_0, fun e => rfl⟩
      | 0, 1 => cases h1; cases h2; exact ⟨z0_1, fun e => rfl⟩
      | 0, 2 => cases h1; cases h2; exact ⟨z0_2, fun e => rfl⟩
      | 0, 3 => cases h1; cases h2; exact ⟨z0_3, fun e => rfl⟩
      | 0, k' + 4 => simp at h2
      | 1, 0 => cases h1; cases h2; exact ⟨z1_0, fun e => absurd e w1_0⟩
      | 1, 1 => cases h1; cases h2; exact ⟨z1_1, fun e => rfl⟩
      | 1, 2 => cases h1; cases h2; exact ⟨z1_2, fun e => absurd e w1_2⟩
      | 1, 3 => cases h1; cases h2; exact ⟨z1_3, fun e => absurd e w1_3⟩
      | 1, k' + 4 => simp at h2
      | 2, 0 => cases h1; cases h2; exact ⟨z2_0, fun e => absurd e w2_0⟩
      | 2, 1 => cases h1; cases h2; exact ⟨z2_1, fun e => absurd e w2_1⟩
      | 2, 2 => cases h1; cases h2; exact ⟨z2_2, fun e => rfl⟩
      | 2, 3 => cases h1; cases h2; exact ⟨z2_3, fun e => absurd e w2_3⟩
      | 2, k' + 4 => simp at h2
      | 3, 0 => cases h1; cases h2; exact ⟨z3_0, fun e => absurd e w3_0⟩
      | 3, 1 => cases h1; cases h2; exact ⟨z3_1, fun e => absurd e w3_1⟩
      | 3, 2 => cases h1; cases h2; exact ⟨z3_2, fun e => absurd e w3_2⟩
      | 3, 3 => cases h1; cases h2; exact ⟨z3_3, fun e => rfl⟩
      | 3, k' + 4 => simp at h2
      | k + 4, _ => simp at h1
  · obtain ⟨dl, d1, d2⟩ := rec_
    exact ⟨i_law_right, fR, _, ocR, odR, slR, cR, tR, dl, rfl, PySem.W.mg_of KX Gs aR, lR, rfl, hR, nR, d1, d2⟩
end K35
set_option Elab.async false
set_option maxRecDepth 100000
set_option linter.unusedVariables false
set_option linter.unusedSimpArgs false
set_option exponentiation.threshold 10000
/-! K35d: what the law draws. -/
namespace K35
open PySem Pv L2
abbrev CF (F d : Nat) (lm : LamC) := callF (tabT ds) (lamT ls) F d lm
theorem w_take (F d : Nat) (hd : 1 ≤ d) (lm : LamC) {r n : Nat} {S : Sto} (hp : PotN r n S) (hn : n < 2 ^ 40) {u : Int} (hu : 0 < u) (hu2 : u.natAbs < 2 ^ 30) :
    ∃ x S', CF F d lm 40 [.ref r, .d (.int u)] S = .ok (.d (.int x)) S' ∧ 0 ≤ x ∧ x < u ∧ PotN r (n + 1) S' ∧ S'.length = S.length ∧ ∀ i, i ≠ r → S'[i]? = S[i]? := by
  obtain ⟨d, rfl⟩ : ∃ e, d = e + 1 := ⟨d - 1, by omega⟩
  obtain ⟨⟨a, b, c, hS, a0, a1, b0, b1, c0, c1⟩, hpl⟩ := hp
  have hr : r < S.length := (List.getElem?_eq_some_iff.mp hS).1
  have u0 : ¬ u = 0 := by omega
  have du : divOk u = true := div_ok (m := 30) u0 hu2 (by omega)
  by_cases ha : 0 < a
  · refine ⟨a.fmod u, S.set r (.lst [.int (a.fdiv u), .int b, .int c]), ?_, (fmod_nn a hu).1, (fmod_nn a hu).2, ⟨⟨a.fdiv u, b, c, by simp [hr], ?_, ?_, b0, b1, c0, by omega⟩, plain_set hpl⟩, by simp, fun i hi => List.getElem?_set_ne (Ne.symm hi)⟩
    · refine (cf_std (f := i_law_take.fn) rfl rfl rfl).trans ?_
      have t1 : fin S.length (.d (.int (a.fmod u))) (S.set r (.lst [.int (a.fdiv u), .int b, .int c])) = .ok (.d (.int (a.fmod u))) (S.set r (.lst [.int (a.fdiv u), .int b, .int c])) := fin_d (by simp) (plain_ok (plain_set hpl))
      simp [i_law_take, b_law_take, Pv.start, rd_ref hS, ha, u0, du, hS, ixN, t1]
    · rw [Int.fdiv_eq_ediv_of_nonneg _ (by omega)]; exact Int.ediv_nonneg a0 (by omega)
    · rw [Int.fdiv_eq_ediv_of_nonneg _ (by omega)]
      exact Nat.lt_of_le_of_lt (Int.natAbs_ediv_le_natAbs _ _) a1
  · obtain ⟨p, hp1, hp2, hp3⟩ := primes ((c + 1).fmod 5) (fmod_nn _ (by omega)).1 (fmod_nn _ (by omega)).2
    have p0 : ¬ p = 0 := by omega
    have cz : (c + 1).natAbs < 2 ^ 41 := by omega
    have m1 : mulOk 180778 (c + 1) = true := mul_ok (n := 18) (by decide) cz (by omega)
    have z1 : (180778 * (c + 1)).natAbs < 2 ^ (18 + 41) := nab_mul (n := 18) (by decide) cz
    have m2 : mulOk (180778 * (c + 1)) (c + 1) = true := mul_ok z1 cz (by omega)
    have z2 := nab_mul z1 cz
    generalize hX : b + 180778 * (c + 1) * (c + 1) + 61151 = X at *
    have z3 : X.natAbs < 2 ^ 102 := by
      have h1 := nab_add (n := 100) (nab_le b1 (by omega)) z2
      have h2 := nab_add (n := 101) h1 (y := 61151) (by decide)
      rw [hX] at h2; exact h2
    have pw : powOk X 3 = true := by
      unfold powOk
      have := log_of z3
      have e : Builtin.Int.intBits X ≤ 200 := by
        unfold Builtin.Int.intBits
        first | omega | (split <;> omega)
      simp only [Bool.and_eq_true, decide_eq_true_eq]
      omega
    generalize hB : (X ^ (3 : Int).toNat).fmod p = B at *
    have hB1 := fmod_nn (X ^ (3 : Int).toNat) hp2
    rw [hB] at hB1
    have Bz : B.natAbs < 2 ^ 31 := by omega
    have m3 : mulOk 94 (c + 1) = true := mul_ok (n := 7) (by decide) cz (by omega)
    have z4 : (94 * (c + 1)).natAbs < 2 ^ (7 + 41) := nab_mul (n := 7) (by decide) cz
    have hD := fmod_nn B (show (0 : Int) < 122966 by omega)
    have m4 : mulOk B (B.fmod 122966 + 94 * (c + 1)) = true := mul_ok Bz (nab_add (n := 48) (by omega) z4) (by omega)
    have d128 : divOk 128 = true := by decide
    let Y := ((B * (B.fmod 122966 + 94 * (c + 1))).fmod 2305843009213693907).fdiv 128
    refine ⟨Y.fmod u, S.set r (.lst [.int a, .int b, .int (c + 1)]), ?_, (fmod_nn Y hu).1, (fmod_nn Y hu).2, ⟨⟨a, b, c + 1, by simp [hr], a0, a1, b0, b1, by omega, by omega⟩, plain_set hpl⟩, by simp, fun i hi => List.getElem?_set_ne (Ne.symm hi)⟩
    refine (cf_std (f := i_law_take.fn) rfl rfl rfl).trans ?_
    have t1 : ∀ q : Int, fin S.length (.d (.int q)) (S.set r (.lst [.int a, .int b, .int (c + 1)])) = .ok (.d (.int q)) (S.set r (.lst [.int a, .int b, .int (c + 1)])) := fun q => fin_d (by simp) (plain_ok (plain_set hpl))
    have hS' : (S.set r (.lst [.int a, .int b, .int (c + 1)]))[r]? = some (.lst [.int a, .int b, .int (c + 1)]) := by simp [hr]
    have hq : ¬ ((c + 1).fmod 5 < 0) := by have := (fmod_nn (c + 1) (show (0 : Int) < 5 by omega)).1; omega
    simp [i_law_take, b_law_take, Pv.start, rd_ref hS, ha, hS, ixN]
    simp [rd_ref hS', hp1, m1, m2, hX, pw, p0, u0, d128, m3, t1]
    rw [show X ^ 3 = X ^ (3 : Int).toNat from rfl, hB]
    simp [m3, m4, d128, u0, t1]
    rfl
theorem w_of (F d : Nat) (hd : 2 ≤ d) (lm : LamC) {r n : Nat} {S : Sto} (hp : PotN r n S) (hn : n < 2 ^ 40) {xs : List PyData} (h0 : xs ≠ []) (hl : xs.length < 1000) :
    ∃ x S', CF F d lm 41 [.ref r, .d (.list xs)] S = .ok (.d x) S' ∧ x ∈ xs ∧ PotN r (n + 1) S' ∧ S'.length = S.length ∧ ∀ i, i ≠ r → S'[i]? = S[i]? := by
  obtain ⟨d, rfl⟩ : ∃ e, d = e + 1 := ⟨d - 1, by omega⟩
  have hpos : 0 < xs.length := List.length_pos_iff.mpr h0
  obtain ⟨i, S', e1, i0, i1, p1, l1, o1⟩ := w_take F d (by omega) lm hp hn (u := (xs.length : Int)) (by omega) (by omega)
  obtain ⟨k, rfl⟩ : ∃ k : Nat, i = k := ⟨i.toNat, by omega⟩
  have hk : k < xs.length := by omega
  refine ⟨xs[k], S', ?_, List.getElem_mem hk, p1, l1, o1⟩
  refine (cf_std (f := i_law_of.fn) rfl rfl rfl).trans ?_
  have t1 := fin_d (x := xs[k]) l1 (plain_ok p1.pl)
  have e2 : atI xs (k : Int) = some xs[k] := by rw [atN, List.getElem?_eq_getElem hk]
  simp only [i_law_of, b_law_of, Pv.start, sts_cons, st_ret, ev_ix, ev_call, ev_v, ev_bi, evs_cons, evs_nil, List.map_cons, List.map_nil, List.cons_append, List.nil_append, List.getElem?_cons_zero, List.getElem?_cons_succ, Option.join_some, R.opt_some, R.bind_ok, rds_cons, rds_nil, rd_d, Option.bind_some, Option.map_some, biD_len_l]
  rw [show callF (tabT ds) (lamT ls) F d lm 40 [.ref r, .d (.int (xs.length : Int))] S = .ok (.d (.int (k : Int))) S' from e1]
  simp only [R.bind_ok, ixA_d, ixD_l, e2, Option.map_some, R.opt_some, outOf_rt, t1]
end K35
set_option Elab.async false
set_option maxRecDepth 100000
set_option linter.unusedVariables false
set_option linter.unusedSimpArgs false
set_option exponentiation.threshold 10000
/-! K35e: the parts of the law's body. -/
namespace K35
open PySem Pv L2
def q1 : Sm := (.set 1 (.bin .pow (.bin .pow (.k (.int 10)) (.k (.int 60))) (.k (.int 5))))
def q2 : Sm := (.set 2 (.lstM (.cons (.k .none) (.cons (.k (.int 5)) (.cons (.k (.str "x")) (.cons (.lst (.cons (.tup (.cons (.k (.int 1)) (.cons (.k (.int 1)) .nil))) .nil)) (.cons (.tup (.cons (.k (.int 1)) (.cons (.k (.int 1)) .nil))) (.cons (.tup (.cons (.tup (.cons (.k (.int 1)) (.cons (.k (.int 1)) .nil))) (.cons (.tup (.cons (.k (.int 0)) (.cons (.k (.int 1)) .nil))) .nil))) (.cons (.tup (.cons (.tup (.cons (.k (.int 2)) (.cons (.k (.int 4)) .nil))) .nil)) (.cons (.tup (.cons (.tup (.cons (.k (.int 1)) (.cons (.k (.int 0)) .nil))) .nil)) (.cons (.tup (.cons (.tup (.cons (.k (.int 1)) (.cons (.neg (.k (.int 1))) .nil))) .nil)) (.cons (.tup (.cons (.tup (.cons (.k (.bool true)) (.cons (.k (.int 1)) .nil))) .nil)) (.cons (.tup (.cons (.tup (.cons (.k (.int 0)) (.cons (.k (.int 1)) .nil))) .nil)) .nil)))))))))))))
def q3 : Sm := (.set 3 (.call 41 (.cons (.v 0) (.cons (.catF (.v 2) (.lst (.cons (.bin .add (.bin .mul (.tup (.cons (.tup (.cons (.k (.int 0)) (.cons (.k (.int 1)) .nil))) .nil)) (.k (.int 21))) (.tup (.cons (.tup (.cons (.k (.int 1)) (.cons (.k (.int 1)) .nil))) .nil))) (.cons (.tup (.cons (.tup (.cons (.v 1) (.cons (.k (.int 1)) .nil))) .nil)) (.cons (.tup (.cons (.tup (.cons (.k (.int 1)) (.cons (.v 1) .nil))) .nil)) (.cons (.tup (.cons (.tup (.cons (.k (.int 1)) (.cons (.k (.int 1)) (.cons (.k (.int 1)) .nil)))) .nil)) .nil)))))) .nil))))
def q4 : Sm := (.set 4 (.call 41 (.cons (.v 0) (.cons (.lst (.cons (.k .none) (.cons (.tup (.cons (.tup (.cons (.k (.int 0)) (.cons (.k (.int 1)) .nil))) .nil)) (.cons (.tup (.cons (.tup (.cons (.k (.int 1)) (.cons (.k (.int 1)) .nil))) (.cons (.k (.int 2)) .nil))) (.cons (.k (.str "poly")) .nil))))) .nil))))
def q5 : Sm := (.set 5 (.call 41 (.cons (.v 0) (.cons (.lst (.cons (.k .none) (.cons (.k (.int 1)) (.cons (.tup (.cons (.k (.int 2)) (.cons (.k (.int 4)) .nil))) (.cons (.tup (.cons (.k (.int 1)) (.cons (.k (.int 0)) .nil))) (.cons (.k (.str "1")) (.cons (.tup (.cons (.v 1) (.cons (.k (.int 1)) .nil))) (.cons (.tup (.cons (.k (.int 1)) (.cons (.k (.bool true)) .nil))) .nil)))))))) .nil))))
def q6 : Sm := (.unp [7, 8] (.tup (.cons (.call 41 (.cons (.v 0) (.cons (.lst (.cons (.k .none) (.cons (.neg (.k (.int 1))) (.cons (.k (.int 21)) (.cons (.k (.bool true)) (.cons (.k (.str "2")) .nil)))))) .nil))) (.cons (.tup (.cons (.tup (.cons (.neg (.k (.int 1))) (.cons (.k (.int 1)) .nil))) (.cons (.tup (.cons (.k (.int 1)) (.cons (.k (.int 1)) .nil))) .nil))) .nil))))
def q7 : Sm := (.set 6 (.lstA (.cons (.tup (.cons (.mk 0 0 42) (.cons (.k (.int 0)) (.cons (.v 3) .nil)))) .nil)))
def q8 : Sm := (.app (.v 6) (.tup (.cons (.mk 1 0 42) (.cons (.k (.int 0)) (.cons (.v 3) .nil)))))
def q9 : Sm := (.app (.v 6) (.tup (.cons (.mk 2 0 42) (.cons (.k (.int 0)) (.cons (.v 3) .nil)))))
def q10 : Sm := (.app (.v 6) (.tup (.cons (.mk 3 0 42) (.cons (.k (.int 0)) (.cons (.v 4) .nil)))))
def q11 : Sm := (.app (.v 6) (.tup (.cons (.mk 4 0 42) (.cons (.k (.int 0)) (.cons (.v 3) .nil)))))
def q12 : Sm := (.app (.v 6) (.tup (.cons (.mk 5 0 42) (.cons (.k (.int 0)) (.cons (.v 4) .nil)))))
def q13 : Sm := (.app (.v 6) (.tup (.cons (.mk 6 0 42) (.cons (.k (.int 0)) (.cons (.tup .nil) .nil)))))
def q14 : Sm := (.app (.v 6) (.tup (.cons (.mk 7 0 42) (.cons (.k (.int 0)) (.cons (.tup .nil) .nil)))))
def q15 : Sm := (.app (.v 6) (.tup (.cons (.mk 8 0 42) (.cons (.k (.int 0)) (.cons (.v 3) .nil)))))
def q16 : Sm := (.app (.v 6) (.tup (.cons (.mk 9 0 42) (.cons (.k (.int 0)) (.cons (.tup .nil) .nil)))))
def q17 : Sm := (.app (.v 6) (.tup (.cons (.mk 10 0 42) (.cons (.k (.int 0)) (.cons (.v 3) .nil)))))
def q18 : Sm := (.app (.v 6) (.tup (.cons (.mk 11 0 42) (.cons (.k (.int 0)) (.cons (.v 3) .nil)))))
def q19 : Sm := (.app (.v 6) (.tup (.cons (.mk 12 0 42) (.cons (.k (.int 0)) (.cons (.v 3) .nil)))))
def q20 : Sm := (.app (.v 6) (.tup (.cons (.mk 13 0 42) (.cons (.k (.int 1)) (.cons (.v 5) .nil)))))
def q21 : Sm := (.app (.v 6) (.tup (.cons (.mk 14 0 42) (.cons (.k (.int 0)) (.cons (.v 3) .nil)))))
def q22 : Sm := (.app (.v 6) (.tup (.cons (.mk 15 0 42) (.cons (.k (.int 1)) (.cons (.v 7) .nil)))))
def q23 : Sm := (.forL (.t [9, 10, 11]) (.v 6) (.cons (.set 12 (.ix (.call 39 (.cons (.v 9) .nil)) (.k (.int 0)))) (.cons (.set 13 (.lst (.cons (.isC (.v 12) [3]) (.cons (.isC (.v 12) [1]) .nil)))) (.cons (.ife (.or (.cmp .ne (.v 13) (.lc (.n 16) [16] (.rng (.cons (.k (.int 2)) .nil)) (.cmp .eq (.v 10) (.v 16)) .nil)) (.cmp .ne (.bi .repr (.cons (.exv (.v 12)) .nil)) (.bi .repr (.cons (.v 11) .nil)))) (.cons (.ret (.k (.bool false))) .nil) .nil) (.cons (.ife (.not (.isV (.v 12))) (.cons (.ret (.k (.bool false))) .nil) .nil) .nil)))))
def q24 : Sm := (.par 14 15 (.bin .add (.bin .mul (.tup (.cons (.tup (.cons (.k (.int 0)) (.cons (.k (.int 1)) .nil))) .nil)) (.k (.int 20))) (.tup (.cons (.tup (.cons (.k (.int 1)) (.cons (.k (.int 1)) .nil))) .nil))) (.tup (.cons (.tup (.cons (.bin .sub (.v 1) (.k (.int 1))) (.cons (.k (.int 1)) .nil))) (.cons (.tup (.cons (.k (.int 1)) (.cons (.bin .sub (.v 1) (.k (.int 1))) .nil))) .nil))))
def q25 : Sm := (.ife (.or (.cmp .ne (.ix (.call 27 (.cons (.v 14) (.cons (.v 14) .nil))) (.k (.int 20))) (.tup (.cons (.k (.int 2)) (.cons (.k (.int 1)) .nil)))) (.cmp .ne (.call 31 (.cons (.v 15) (.cons (.tup (.cons (.k (.int 0)) (.cons (.k (.int 1)) .nil))) .nil))) (.tup (.cons (.bin .sub (.v 1) (.k (.int 1))) (.cons (.k (.int 1)) .nil))))) (.cons (.ret (.k (.bool false))) .nil) .nil)
def q26 : Sm := (.ret (.and (.cmp .eq (.ix (.call 30 (.cons (.tup .nil) (.cons (.v 8) .nil))) (.k (.int 0))) (.v 8)) (.cmp .eq (.call 29 (.cons (.tup .nil) (.cons (.v 8) .nil))) (.tup (.cons (.tup .nil) (.cons (.tup .nil) .nil))))))
theorem body_eq : b_law_right = (.cons q1 (.cons q2 (.cons q3 (.cons q4 (.cons q5 (.cons q6 (.cons q7 (.cons q8 (.cons q9 (.cons q10 (.cons q11 (.cons q12 (.cons q13 (.cons q14 (.cons q15 (.cons q16 (.cons q17 (.cons q18 (.cons q19 (.cons q20 (.cons q21 (.cons q22 (.cons q23 (.cons q24 (.cons q25 (.cons q26 .nil)))))))))))))))))))))))))) := rfl
end K35
set_option Elab.async false
set_option maxRecDepth 100000
set_option linter.unusedVariables false
set_option linter.unusedSimpArgs false
set_option exponentiation.threshold 10000
/-! K35f: what is drawn. -/
namespace K35
open PySem Pv L2
def far : Int := (10 ^ 60) ^ 5
def i2 (a b : Int) : PyData := .tuple [.int a, .int b]
def oddL : List PyData := [.none, .int 5, .str "x", .list [i2 1 1], i2 1 1, .tuple [i2 1 1, i2 0 1], .tuple [i2 2 4], .tuple [i2 1 0], .tuple [i2 1 (-1)], .tuple [.tuple [.bool true, .int 1]], .tuple [i2 0 1]]
def moreL : List PyData := [.tuple (repD [i2 0 1] 21 ++ [i2 1 1]), .tuple [i2 far 1], .tuple [i2 1 far], .tuple [.tuple [.int 1, .int 1, .int 1]]]
def Bs : List PyData := oddL ++ moreL
def Os : List PyData := [.none, .tuple [i2 0 1], .tuple [i2 1 1, .int 2], .str "poly"]
def Ns : List PyData := [.none, .int 1, i2 2 4, i2 1 0, .str "1", i2 far 1, .tuple [.int 1, .bool true]]
def Ms : List PyData := [.none, .int (-1), .int 21, .bool true, .str "2"]
def good : PyData := .tuple [i2 (-1) 1, i2 1 1]
/-- the lambdas of the def at work -/
def lamC (F d : Nat) (σ : En) : LamC := ⟨d + 1, fun k S => match lamT ls k with
  | some (j', e) => if j' = 42 then ev ⟨callF (tabT ds) (lamT ls) F d, fun _ => noLam, F, d, none⟩ e σ S else .no
  | none => .no⟩
abbrev cR (F d : Nat) : Cfg := ⟨callF (tabT ds) (lamT ls) F (d + 3), lamC F d, F, d + 3, some 42⟩
section
variable {F d r : Nat} {S : Sto} {σ : En}
theorem s1 {v2 v3 v4 v5 v6 v7 v8 v9 v10 v11 v12 v13 v14 v15 v16 : Option A} : st (cR F d) q1 [some (.ref r), none, v2, v3, v4, v5, v6, v7, v8, v9, v10, v11, v12, v13, v14, v15, v16] S = .ok (.nx [some (.ref r), some (.d (.int far)), v2, v3, v4, v5, v6, v7, v8, v9, v10, v11, v12, v13, v14, v15, v16]) S := by
  have p1 : powOk 10 60 = true := by decide +kernel
  have p2 : powOk (10 ^ 60) 5 = true := by decide +kernel
  have e1 : (10 : Int) ^ (60 : Int).toNat = 10 ^ 60 := rfl
  have e2 : ((10 : Int) ^ 60) ^ (5 : Int).toNat = far := rfl
  simp only [q1, st_set, ev_bin, ev_k, R.bind_ok, rd_d, Option.bind_some, binD_pow, p1, if_true, e1, Option.map_some, R.opt_some, p2, e2, List.set_cons_succ, List.set_cons_zero]
theorem s2 {v1 v3 v4 v5 v6 v7 v8 v9 v10 v11 v12 v13 v14 v15 v16 : Option A} : st (cR F d) q2 [some (.ref r), v1, none, v3, v4, v5, v6, v7, v8, v9, v10, v11, v12, v13, v14, v15, v16] S = .ok (.nx [some (.ref r), v1, some (.ref S.length), v3, v4, v5, v6, v7, v8, v9, v10, v11, v12, v13, v14, v15, v16]) (S ++ [.lst oddL]) := by
  simp only [q2, st_set, ev_lstM, evs_cons, evs_nil, ev_k, ev_lst, ev_tup, ev_neg, R.bind_ok, datas_d, datas_nil, Option.map_some, R.opt_some, List.set_cons_succ, List.set_cons_zero]
  rfl
theorem more_ev (h : σ[1]? = some (some (.d (.int far)))) : ∀ xs, q3 = .set 3 (.call 41 (.cons (.v 0) (.cons (.catF (.v 2) (.lst xs)) .nil))) → ev (cR F d) (.lst xs) σ S = .ok (.d (.list moreL)) S := by
  intro xs hx
  unfold q3 at hx
  simp only [Sm.set.injEq, Ex.call.injEq, Exs.cons.injEq, Ex.catF.injEq, Ex.lst.injEq, true_and, and_true] at hx
  subst hx
  have b1 : binD .mul (.tuple [i2 0 1]) (.int 21) = some (.tuple (repD [i2 0 1] 21)) := rfl
  have b2 : binD .add (.tuple (repD [i2 0 1] 21)) (.tuple [i2 1 1]) = some (.tuple (repD [i2 0 1] 21 ++ [i2 1 1])) := by
    have e : ∀ a b : List PyData, binD .add (.tuple a) (.tuple b) = if a ≠ [] ∧ b ≠ [] ∧ a.length + b.length ≤ sizeLine then some (.tuple (a ++ b)) else none := fun _ _ => rfl
    rw [e, if_pos ⟨by decide, by decide, by rw [sizeLine_eq]; decide⟩]
  have f1 : PyData.tuple [.int 0, .int 1] = i2 0 1 := rfl
  have f2 : PyData.tuple [.int 1, .int 1] = i2 1 1 := rfl
  simp only [evs_cons, evs_nil, ev_k, ev_v, h, Option.join_some, ev_lst, ev_tup, ev_bin, R.bind_ok, datas_d, datas_nil, Option.map_some, R.opt_some, rd_d, Option.bind_some, f1, f2, b1, b2]
  rfl
theorem s3 (hd : 2 ≤ d + 3) {n : Nat} {v3 v4 v5 v6 v7 v8 v9 v10 v11 v12 v13 v14 v15 v16 : Option A} {p : Nat} (hp : PotN r n S) (hn : n < 2 ^ 40) (ho : S[p]? = some (.lst oddL)) :
    ∃ x S', st (cR F d) q3 [some (.ref r), some (.d (.int far)), some (.ref p), v3, v4, v5, v6, v7, v8, v9, v10, v11, v12, v13, v14, v15, v16] S = .ok (.nx [some (.ref r), some (.d (.int far)), some (.ref p), some (.d x), v4, v5, v6, v7, v8, v9, v10, v11, v12, v13, v14, v15, v16]) S' ∧ x ∈ Bs ∧ PotN r (n + 1) S' ∧ S'.length = S.length ∧ ∀ i, i ≠ r → S'[i]? = S[i]? := by
  obtain ⟨x, S', e1, hx, p1, l1, o1⟩ := w_of F (d + 3) hd (lamC F d [some (.ref r), some (.d (.int far)), some (.ref p), v3, v4, v5, v6, v7, v8, v9, v10, v11, v12, v13, v14, v15, v16]) hp hn (xs := Bs) (by decide) (by decide)
  refine ⟨x, S', ?_, hx, p1, l1, o1⟩
  have e2 := more_ev (F := F) (d := d) (S := S) (σ := [some (.ref r), some (.d (.int far)), some (.ref p), v3, v4, v5, v6, v7, v8, v9, v10, v11, v12, v13, v14, v15, v16]) rfl _ rfl
  have sz : oddL.length + moreL.length ≤ sizeLine := by rw [sizeLine_eq]; decide
  have e3 : q3 = .set 3 (.call 41 (.cons (.v 0) (.cons (.catF (.v 2) (.lst _)) .nil))) := rfl
  rw [e3]
  rw [st_set, ev_call, evs_cons, ev_v, List.getElem?_cons_zero, Option.join_some, R.opt_some, R.bind_ok, evs_cons, ev_catF, ev_v, List.getElem?_cons_succ, List.getElem?_cons_succ, List.getElem?_cons_zero, Option.join_some, R.opt_some, R.bind_ok, e2, R.bind_ok]
  simp only [ho, sz, if_true, R.bind_ok, evs_nil]
  rw [show callF (tabT ds) (lamT ls) F (d + 3) (lamC F d [some (.ref r), some (.d (.int far)), some (.ref p), v3, v4, v5, v6, v7, v8, v9, v10, v11, v12, v13, v14, v15, v16]) 41 [.ref r, .d (.list (oddL ++ moreL))] S = .ok (.d x) S' from e1]
  rfl
end
end K35
set_option Elab.async false
set_option maxRecDepth 100000
set_option linter.unusedVariables false
set_option linter.unusedSimpArgs false
set_option exponentiation.threshold 10000
/-! K35g: what is drawn, the rest; the looks. -/
namespace K35
open PySem Pv L2
section
variable {F d r : Nat} {S : Sto} {σ : En}
theorem st_ev4 : ∀ xs, q4 = .set 4 (.call 41 (.cons (.v 0) (.cons (.lst xs) .nil))) → ev (cR F d) (.lst xs) σ S = .ok (.d (.list Os)) S := by
  intro xs hx
  unfold q4 at hx
  simp only [Sm.set.injEq, Ex.call.injEq, Exs.cons.injEq, Ex.lst.injEq, true_and, and_true] at hx
  subst hx
  simp only [evs_cons, evs_nil, ev_k, ev_lst, ev_tup, R.bind_ok, datas_d, datas_nil, Option.map_some, R.opt_some]
  rfl
theorem st_ev5 (h : σ[1]? = some (some (.d (.int far)))) : ∀ xs, q5 = .set 5 (.call 41 (.cons (.v 0) (.cons (.lst xs) .nil))) → ev (cR F d) (.lst xs) σ S = .ok (.d (.list Ns)) S := by
  intro xs hx
  unfold q5 at hx
  simp only [Sm.set.injEq, Ex.call.injEq, Exs.cons.injEq, Ex.lst.injEq, true_and, and_true] at hx
  subst hx
  simp only [evs_cons, evs_nil, ev_k, ev_v, h, Option.join_some, ev_lst, ev_tup, R.bind_ok, datas_d, datas_nil, Option.map_some, R.opt_some]
  rfl
theorem st_ev6 : ∀ xs g', q6 = .unp [7, 8] (.tup (.cons (.call 41 (.cons (.v 0) (.cons (.lst xs) .nil))) (.cons g' .nil))) → ev (cR F d) (.lst xs) σ S = .ok (.d (.list Ms)) S ∧ ∀ S', ev (cR F d) g' σ S' = .ok (.d good) S' := by
  intro xs g' hx
  unfold q6 at hx
  simp only [Sm.unp.injEq, Ex.tup.injEq, Ex.call.injEq, Exs.cons.injEq, Ex.lst.injEq, true_and, and_true] at hx
  obtain ⟨rfl, rfl⟩ := hx
  constructor
  · simp only [evs_cons, evs_nil, ev_k, ev_neg, ev_lst, ev_tup, R.bind_ok, datas_d, datas_nil, Option.map_some, R.opt_some]
    rfl
  · intro S'
    simp only [evs_cons, evs_nil, ev_k, ev_neg, ev_lst, ev_tup, R.bind_ok, datas_d, datas_nil, Option.map_some, R.opt_some]
    rfl
theorem s4 (hd : 2 ≤ d + 3) {n : Nat} {v1 v2 v3 v4 v5 v6 v7 v8 v9 v10 v11 v12 v13 v14 v15 v16 : Option A} (hp : PotN r n S) (hn : n < 2 ^ 40) :
    ∃ x S', st (cR F d) q4 [some (.ref r), v1, v2, v3, v4, v5, v6, v7, v8, v9, v10, v11, v12, v13, v14, v15, v16] S = .ok (.nx [some (.ref r), v1, v2, v3, some (.d x), v5, v6, v7, v8, v9, v10, v11, v12, v13, v14, v15, v16]) S' ∧ x ∈ Os ∧ PotN r (n + 1) S' ∧ S'.length = S.length ∧ ∀ i, i ≠ r → S'[i]? = S[i]? := by
  obtain ⟨x, S', e1, hx, p1, l1, o1⟩ := w_of F (d + 3) hd (lamC F d [some (.ref r), v1, v2, v3, v4, v5, v6, v7, v8, v9, v10, v11, v12, v13, v14, v15, v16]) hp hn (xs := Os) (by decide) (by decide)
  refine ⟨x, S', ?_, hx, p1, l1, o1⟩
  have e2 := st_ev4 (F := F) (d := d) (S := S) (σ := [some (.ref r), v1, v2, v3, v4, v5, v6, v7, v8, v9, v10, v11, v12, v13, v14, v15, v16]) _ rfl
  have e3 : q4 = .set 4 (.call 41 (.cons (.v 0) (.cons (.lst _) .nil))) := rfl
  rw [e3, st_set, ev_call, evs_cons, ev_v, List.getElem?_cons_zero, Option.join_some, R.opt_some, R.bind_ok, evs_cons, e2]
  simp only [R.bind_ok, evs_nil]
  rw [show callF (tabT ds) (lamT ls) F (d + 3) (lamC F d [some (.ref r), v1, v2, v3, v4, v5, v6, v7, v8, v9, v10, v11, v12, v13, v14, v15, v16]) 41 [.ref r, .d (.list Os)] S = .ok (.d x) S' from e1]
  rfl
theorem s5 (hd : 2 ≤ d + 3) {n : Nat} {v2 v3 v4 v5 v6 v7 v8 v9 v10 v11 v12 v13 v14 v15 v16 : Option A} (hp : PotN r n S) (hn : n < 2 ^ 40) :
    ∃ x S', st (cR F d) q5 [some (.ref r), some (.d (.int far)), v2, v3, v4, v5, v6, v7, v8, v9, v10, v11, v12, v13, v14, v15, v16] S = .ok (.nx [some (.ref r), some (.d (.int far)), v2, v3, v4, some (.d x), v6, v7, v8, v9, v10, v11, v12, v13, v14, v15, v16]) S' ∧ x ∈ Ns ∧ PotN r (n + 1) S' ∧ S'.length = S.length ∧ ∀ i, i ≠ r → S'[i]? = S[i]? := by
  obtain ⟨x, S', e1, hx, p1, l1, o1⟩ := w_of F (d + 3) hd (lamC F d [some (.ref r), some (.d (.int far)), v2, v3, v4, v5, v6, v7, v8, v9, v10, v11, v12, v13, v14, v15, v16]) hp hn (xs := Ns) (by decide) (by decide)
  refine ⟨x, S', ?_, hx, p1, l1, o1⟩
  have e2 := st_ev5 (F := F) (d := d) (S := S) (σ := [some (.ref r), some (.d (.int far)), v2, v3, v4, v5, v6, v7, v8, v9, v10, v11, v12, v13, v14, v15, v16]) rfl _ rfl
  have e3 : q5 = .set 5 (.call 41 (.cons (.v 0) (.cons (.lst _) .nil))) := rfl
  rw [e3, st_set, ev_call, evs_cons, ev_v, List.getElem?_cons_zero, Option.join_some, R.opt_some, R.bind_ok, evs_cons, e2]
  simp only [R.bind_ok, evs_nil]
  rw [show callF (tabT ds) (lamT ls) F (d + 3) (lamC F d [some (.ref r), some (.d (.int far)), v2, v3, v4, v5, v6, v7, v8, v9, v10, v11, v12, v13, v14, v15, v16]) 41 [.ref r, .d (.list Ns)] S = .ok (.d x) S' from e1]
  rfl
theorem s6 (hd : 2 ≤ d + 3) {n : Nat} {v1 v2 v3 v4 v5 v6 v7 v8 v9 v10 v11 v12 v13 v14 v15 v16 : Option A} (hp : PotN r n S) (hn : n < 2 ^ 40) :
    ∃ x S', st (cR F d) q6 [some (.ref r), v1, v2, v3, v4, v5, v6, v7, v8, v9, v10, v11, v12, v13, v14, v15, v16] S = .ok (.nx [some (.ref r), v1, v2, v3, v4, v5, v6, some (.d x), some (.d good), v9, v10, v11, v12, v13, v14, v15, v16]) S' ∧ x ∈ Ms ∧ PotN r (n + 1) S' ∧ S'.length = S.length ∧ ∀ i, i ≠ r → S'[i]? = S[i]? := by
  obtain ⟨x, S', e1, hx, p1, l1, o1⟩ := w_of F (d + 3) hd (lamC F d [some (.ref r), v1, v2, v3, v4, v5, v6, v7, v8, v9, v10, v11, v12, v13, v14, v15, v16]) hp hn (xs := Ms) (by decide) (by decide)
  refine ⟨x, S', ?_, hx, p1, l1, o1⟩
  obtain ⟨e2, e4⟩ := st_ev6 (F := F) (d := d) (S := S) (σ := [some (.ref r), v1, v2, v3, v4, v5, v6, v7, v8, v9, v10, v11, v12, v13, v14, v15, v16]) _ _ rfl
  have e3 : q6 = .unp [7, 8] (.tup (.cons (.call 41 (.cons (.v 0) (.cons (.lst _) .nil))) (.cons _ .nil))) := rfl
  rw [e3, st_unp, ev_tup, evs_cons, ev_call, evs_cons, ev_v, List.getElem?_cons_zero, Option.join_some, R.opt_some, R.bind_ok, evs_cons, e2]
  simp only [R.bind_ok, evs_nil]
  rw [show callF (tabT ds) (lamT ls) F (d + 3) (lamC F d [some (.ref r), v1, v2, v3, v4, v5, v6, v7, v8, v9, v10, v11, v12, v13, v14, v15, v16]) 41 [.ref r, .d (.list Ms)] S = .ok (.d x) S' from e1]
  simp only [R.bind_ok, evs_cons, e4, evs_nil, datas_d, datas_nil, Option.map_some, setTgA_d, setTg_t, List.length_cons, List.length_nil, if_true, setAll_cons, setAll_nil, List.set_cons_succ, List.set_cons_zero, R.opt_some]
/-! ### the looks -/
/-- a look: its lambda, the kind of error it meets, the value at fault -/
def look (k : Nat) (a : Int) (x : PyData) : A := .tup [.lam k, .d (.int a), .d x]
theorem tup_look {k : Nat} {a : Int} {e : Ex} {x : PyData} (h0 : S[0]? = some (.tab 42)) (he : ∀ S, ev (cR F d) e σ S = .ok (.d x) S) : ev (cR F d) (.tup (.cons (.mk k 0 42) (.cons (.k (.int a)) (.cons e .nil)))) σ S = .ok (look k a x) S := by
  simp only [ev_tup, evs_cons, evs_nil, ev_mk, if_true, h0, R.bind_ok, ev_k, he, datas_lam]
  rfl
theorem app_look {T : Sto} {k : Nat} {a : Int} {e : Ex} {x : PyData} {as : List A} (h0 : T[0]? = some (.tab 42)) (h6 : σ[6]? = some (some (.ref T.length))) (hl : as.length < 100) (he : ∀ S, ev (cR F d) e σ S = .ok (.d x) S) :
    st (cR F d) (.app (.v 6) (.tup (.cons (.mk k 0 42) (.cons (.k (.int a)) (.cons e .nil))))) σ (T ++ [.lsa as]) = .ok (.nx σ) (T ++ [.lsa (as ++ [look k a x])]) := by
  have hT : 0 < T.length := (List.getElem?_eq_some_iff.mp h0).1
  have h1 : (T ++ [O.lsa as])[0]? = some (.tab 42) := by rw [List.getElem?_append_left hT]; exact h0
  have h2 : (T ++ [O.lsa as])[T.length]? = some (.lsa as) := by simp
  have h3 : isL (T ++ [O.lsa as]) T.length = true := isL_of h2
  have h4 : (T ++ [O.lsa as]).set T.length (O.lsa (as ++ [look k a x])) = T ++ [O.lsa (as ++ [look k a x])] := by simp
  have h5 : as.length < sizeLine := by rw [sizeLine_eq]; omega
  simp only [st_app, ev_v, h6, Option.join_some, R.opt_some, R.bind_ok, h3, if_true, tup_look h1 he, h2, h5, h4]
end
end K35
set_option Elab.async false
set_option maxRecDepth 100000
set_option linter.unusedVariables false
set_option linter.unusedSimpArgs false
set_option exponentiation.threshold 10000
/-! K35h: a look is heard; a turn of the loop. -/
namespace K35
open PySem Pv L2
section
variable {F d : Nat} {S : Sto} {σ : En}
theorem fin_pair {n e : Nat} {x : PyData} (hl : S.length = n) (h : okS S) : fin n (.tup [.exc e x, .d .none]) S = .ok (.tup [.exc e x, .d .none]) S := by
  unfold fin
  simp only [frz_tup, frzs_cons, frzs_nil, frz_exc, frz_d, Option.bind_some, Option.map_some]
  rw [h.cut, List.take_of_length_le (by omega)]
theorem w_heard {k e : Nat} {x : PyData} (hrun : (lamC F d σ).run k S = .ex e x S) (he : ([0, 1, 2, 3] : List Nat).contains e = true) (ok : okS S) : callF (tabT ds) (lamT ls) F (d + 3) (lamC F d σ) 39 [.lam k] S = .ok (.tup [.exc e x, .d .none]) S := by
  refine (cf_std (f := i_law_heard.fn) rfl rfl rfl).trans ?_
  have hl : (lamC F d σ).l ≤ d + 2 := by show d + 1 ≤ d + 2; omega
  simp only [i_law_heard, b_law_heard, Pv.start, sts_cons, st_tryR, ev_callv, ev_v, List.map_cons, List.map_nil, List.cons_append, List.nil_append, List.getElem?_cons_zero, Option.join_some, R.opt_some, R.bind_ok, hl, if_true, hrun, he, outOf_rt]
  exact fin_pair rfl ok
def bq : Ss := match q23 with
  | .forL _ _ b => b
  | _ => .nil
theorem q23_eq : q23 = .forL (.t [9, 10, 11]) (.v 6) bq := rfl
theorem range2 {c : Cfg} {a : Int} (h : σ[10]? = some (some (.d (.int a)))) (hl : σ.length = 17) : ev c (.lc (.n 16) [16] (.rng (.cons (.k (.int 2)) .nil)) (.cmp .eq (.v 10) (.v 16)) .nil) σ S = .ok (.d (.list [.bool (decide (a = 0)), .bool (decide (a = 1))])) S := by
  have e1 : ∀ y : PyData, ((σ.set 16 none).set 16 (some (.d y)))[10]? = some (some (.d (.int a))) := fun y => by
    rw [List.getElem?_set_ne (by omega), List.getElem?_set_ne (by omega)]; exact h
  have e2 : ∀ y : PyData, ((σ.set 16 none).set 16 (some (.d y)))[16]? = some (some (.d y)) := fun y => by
    rw [List.getElem?_set_self (by simp [hl])]
  have e3 : rngOf [.d (.int 2)] = some [.int 0, .int 1] := by rfl
  simp only [ev_lc, evI_rng, evs_cons, evs_nil, ev_k, R.bind_ok, e3, R.opt_some, lcGo_cons', lcGo_nil, lcF, setTg_n, wipeD_cons, wipeD_nil, lcOne_nil, ev_cmp, ev_v, e1, e2, Option.join_some, cmpA_d, cmpD_eq_i, Option.map_some, keepD_ok', calm_ok, consO_s]
theorem turn {r6 : Option A} {v0 v1 v2 v3 v4 v5 v7 v8 v9 v10 v11 v12 v13 v14 v15 v16 : Option A} {k e : Nat} {a : Int} {x : PyData} (ha : (e = 3 ∧ a = 0) ∨ (e = 1 ∧ a = 1)) (hx : reprOk x = true) (ok : okS S)
    (hrun : (lamC F d [v0, v1, v2, v3, v4, v5, r6, v7, v8, some (.lam k), some (.d (.int a)), some (.d x), v12, v13, v14, v15, v16]).run k S = .ex e x S) :
    forLF (cR F d) (.t [9, 10, 11]) bq (look k a x) [v0, v1, v2, v3, v4, v5, r6, v7, v8, v9, v10, v11, v12, v13, v14, v15, v16] S =
      .ok (.nx [v0, v1, v2, v3, v4, v5, r6, v7, v8, some (.lam k), some (.d (.int a)), some (.d x), some (.exc e x), some (.d (.list [.bool (([3] : List Nat).contains e), .bool (([1] : List Nat).contains e)])), v14, v15, v16]) S := by
  have he : ([0, 1, 2, 3] : List Nat).contains e = true := by rcases ha with ⟨rfl, _⟩ | ⟨rfl, _⟩ <;> rfl
  have hh := w_heard hrun he ok
  have hn : cmpD .ne (.list [.bool (([3] : List Nat).contains e), .bool (([1] : List Nat).contains e)]) (.list [.bool (decide (a = 0)), .bool (decide (a = 1))]) = some false := by
    rcases ha with ⟨rfl, rfl⟩ | ⟨rfl, rfl⟩ <;> rfl
  have i0 : atI [A.exc e x, A.d .none] 0 = some (.exc e x) := rfl
  unfold forLF look
  simp only [setTgA_t, List.length_cons, List.length_nil, if_true, setAllA_cons, setAllA_nil, List.set_cons_succ, List.set_cons_zero]
  simp only [bq, q23, sts_cons, sts_nil, st_set, ev_ix, ev_call, evs_cons, evs_nil, ev_v, List.getElem?_cons_succ, List.getElem?_cons_zero, Option.join_some, R.opt_some, R.bind_ok, hh, ev_k, ixA_t, i0, List.set_cons_succ, List.set_cons_zero, ev_lst, ev_isC, datas_d, datas_nil, Option.map_some, st_ife, ev_or, ev_cmp]
  rw [range2 (a := a) rfl rfl]
  simp only [R.bind_ok, cmpA_d, hn, Option.map_some, R.opt_some, rd_d, Option.bind_some, truthD_b, ev_cmp, ev_bi, ev_exv, evs_cons, evs_nil, ev_v, List.getElem?_cons_succ, List.getElem?_cons_zero, Option.join_some, rds_cons, rds_nil, biD_repr, hx, if_true, cmpD_ne_s, decide_true, Bool.not_true, sts_nil, ev_not, ev_isV]
end
end K35
set_option Elab.async false
set_option maxRecDepth 100000
set_option linter.unusedVariables false
set_option exponentiation.threshold 10000
/-! K35i: what the refusals are, one by one. -/
namespace K35
open PySem Pv L2
abbrev cl (k : Nat) (xs : List PyData) : R A := callF (tabT ds) (lamT ls) 100 55 noLam k (xs.map .d) []
abbrev nil_ : PyData := .tuple []
theorem f_sum : (Bs.all fun x => Os.all fun y => isEx (cl 27 [x, y]) 3 x) = true := by decide +kernel
theorem f_sum2 : (Bs.all fun x => isEx (cl 27 [good, x]) 3 x) = true := by decide +kernel
theorem f_prod : (Bs.all fun x => Os.all fun y => isEx (cl 28 [x, y]) 3 x) = true := by decide +kernel
theorem f_prod2 : (Os.all fun x => isEx (cl 28 [good, x]) 3 x) = true := by decide +kernel
theorem f_div : (Bs.all fun x => Os.all fun y => isEx (cl 29 [x, y]) 3 x) = true := by decide +kernel
theorem f_div2 : (Os.all fun x => isEx (cl 29 [good, x]) 3 x) = true := by decide +kernel
theorem f_div3 : isEx (cl 29 [good, nil_]) 3 nil_ = true := by decide +kernel
theorem f_div4 : isEx (cl 29 [nil_, nil_]) 3 nil_ = true := by decide +kernel
theorem f_com : (Bs.all fun x => Os.all fun y => isEx (cl 30 [x, y]) 3 x) = true := by decide +kernel
theorem f_com2 : isEx (cl 30 [nil_, nil_]) 3 nil_ = true := by decide +kernel
theorem f_slope : (Bs.all fun x => isEx (cl 32 [x]) 3 x) = true := by decide +kernel
theorem f_text : (Bs.all fun x => isEx (cl 35 [x]) 3 x) = true := by decide +kernel
theorem f_val : (Bs.all fun x => Ns.all fun y => isEx (cl 31 [x, y]) 3 x) = true := by decide +kernel
theorem f_val2 : (Ns.all fun y => isEx (cl 31 [good, y]) 1 y) = true := by decide +kernel
theorem f_rais : (Bs.all fun x => Ms.all fun y => isEx (cl 33 [x, y]) 3 x) = true := by decide +kernel
theorem f_rais2 : (Ms.all fun y => isEx (cl 33 [good, y]) 1 y) = true := by decide +kernel
theorem f_repr : ((nil_ :: (Bs ++ Os ++ Ns ++ Ms)).all reprOk) = true := by decide +kernel
end K35
set_option Elab.async false
set_option maxRecDepth 100000
set_option linter.unusedVariables false
set_option linter.unusedSimpArgs false
set_option exponentiation.threshold 10000
/-! K35j: the loop over the looks. -/
namespace K35
open PySem Pv L2
theorem runG {σ : En} {S : Sto} {k n e : Nat} {es : Exs} {xs : List PyData} {f : Fn} {z : PyData} (hl : lamT ls k = some (42, .call n es)) (hf : tabT ds n = some f) (hm : f.md = .pure) (hn : xs.length = f.np) (he : ∀ (c : Cfg) (S : Sto), evs c es σ S = .ok (xs.map .d) S) (h : isEx (cl n xs) e z = true) : (lamC 100 55 σ).run k S = .ex e z S := by
  show (match lamT ls k with
    | some (j', e) => if j' = 42 then ev ⟨callF (tabT ds) (lamT ls) 100 55, fun _ => noLam, 100, 55, none⟩ e σ S else .no
    | none => .no) = _
  rw [hl]
  simp only [if_true, ev_call, he, R.bind_ok]
  exact (pure_lift hf hm hn).trans (isEx_onto h S)
/-- what is known of a look -/
def LookOk (v0 v1 v2 v3 v4 v5 v6 v7 v8 : Option A) (S : Sto) (q : Nat × Nat × Int × PyData) : Prop :=
  ((q.2.1 = 3 ∧ q.2.2.1 = 0) ∨ (q.2.1 = 1 ∧ q.2.2.1 = 1)) ∧ reprOk q.2.2.2 = true ∧ ∀ v9 v10 v11 v12 v13 v14 v15 v16, (lamC 100 55 [v0, v1, v2, v3, v4, v5, v6, v7, v8, v9, v10, v11, v12, v13, v14, v15, v16]).run q.1 S = .ex q.2.1 q.2.2.2 S
theorem loop {v0 v1 v2 v3 v4 v5 v6 v7 v8 v14 v15 v16 : Option A} {S : Sto} {R : Nat} {L : List A} (hS : S[R]? = some (.lsa L)) (ok : okS S) : ∀ (l : List (Nat × Nat × Int × PyData)) (i fuel : Nat) (v9 v10 v11 v12 v13 : Option A),
    (∀ q ∈ l, LookOk v0 v1 v2 v3 v4 v5 v6 v7 v8 S q) → L.drop i = l.map (fun q => look q.1 q.2.2.1 q.2.2.2) → l.length < fuel →
    ∃ w9 w10 w11 w12 w13, forLGo (forLF (cR 100 55) (.t [9, 10, 11]) bq) R fuel i [v0, v1, v2, v3, v4, v5, v6, v7, v8, v9, v10, v11, v12, v13, v14, v15, v16] S = .ok (.nx [v0, v1, v2, v3, v4, v5, v6, v7, v8, w9, w10, w11, w12, w13, v14, v15, v16]) S := by
  intro l
  induction l with
  | nil =>
    intro i fuel v9 v10 v11 v12 v13 _ hd hf
    obtain ⟨fuel, rfl⟩ : ∃ e, fuel = e + 1 := ⟨fuel - 1, by simp at hf; omega⟩
    have hi : L[i]? = none := by
      rw [List.getElem?_eq_none_iff]
      have := congrArg List.length hd
      simp at this
      omega
    refine ⟨v9, v10, v11, v12, v13, ?_⟩
    unfold forLGo
    simp only [hS, hi]
  | cons q l ih =>
    intro i fuel v9 v10 v11 v12 v13 hq hd hf
    obtain ⟨fuel, rfl⟩ : ∃ e, fuel = e + 1 := ⟨fuel - 1, by simp at hf; omega⟩
    obtain ⟨k, e, a, x⟩ := q
    obtain ⟨ha, hx, hr⟩ := hq _ List.mem_cons_self
    have hi : L[i]? = some (look k a x) := by
      have z := congrArg (fun t => t[0]?) hd
      simp only [List.getElem?_drop, Nat.add_zero, List.map_cons, List.getElem?_cons_zero] at z
      exact z
    have hd' : L.drop (i + 1) = l.map (fun q => look q.1 q.2.2.1 q.2.2.2) := by
      have z := congrArg List.tail hd
      rw [List.tail_drop] at z
      simpa using z
    have t := turn (F := 100) (d := 55) (S := S) (v0 := v0) (v1 := v1) (v2 := v2) (v3 := v3) (v4 := v4) (v5 := v5) (r6 := v6) (v7 := v7) (v8 := v8) (v9 := v9) (v10 := v10) (v11 := v11) (v12 := v12) (v13 := v13) (v14 := v14) (v15 := v15) (v16 := v16) (k := k) (e := e) (a := a) (x := x) ha hx ok (hr _ _ _ _ _ _ _ _)
    obtain ⟨w9, w10, w11, w12, w13, h⟩ := ih (i + 1) fuel (some (.lam k)) (some (.d (.int a))) (some (.d x)) (some (.exc e x)) (some (.d (.list [.bool (([3] : List Nat).contains e), .bool (([1] : List Nat).contains e)]))) (fun q hm => hq q (List.mem_cons_of_mem _ hm)) hd' (by simp at hf; omega)
    refine ⟨w9, w10, w11, w12, w13, ?_⟩
    unfold forLGo
    simp only [hS, hi]
    rw [t, Pv.R.bind_ok]
    exact h
/-- all the looks -/
def looksL (bad other number many : PyData) : List (Nat × Nat × Int × PyData) := [(0, 3, 0, bad), (1, 3, 0, bad), (2, 3, 0, bad), (3, 3, 0, other), (4, 3, 0, bad), (5, 3, 0, other), (6, 3, 0, nil_), (7, 3, 0, nil_), (8, 3, 0, bad), (9, 3, 0, nil_), (10, 3, 0, bad), (11, 3, 0, bad), (12, 3, 0, bad), (13, 1, 1, number), (14, 3, 0, bad), (15, 1, 1, many)]
theorem all2 {l m : List PyData} {p : PyData → PyData → Bool} (h : (l.all fun x => m.all fun y => p x y) = true) {x y : PyData} (hx : x ∈ l) (hy : y ∈ m) : p x y = true := List.all_eq_true.mp (List.all_eq_true.mp h x hx) y hy
theorem all1 {l : List PyData} {p : PyData → Bool} (h : l.all p = true) {x : PyData} (hx : x ∈ l) : p x = true := List.all_eq_true.mp h x hx
theorem looks_ok {bad other number many : PyData} (hb : bad ∈ Bs) (ho : other ∈ Os) (hn : number ∈ Ns) (hm : many ∈ Ms) {v0 v1 v2 v6 : Option A} {S : Sto} :
    ∀ q ∈ looksL bad other number many, LookOk v0 v1 v2 (some (.d bad)) (some (.d other)) (some (.d number)) v6 (some (.d many)) (some (.d good)) S q := by
  have rb : reprOk bad = true := all1 f_repr (by simp [hb])
  have ro : reprOk other = true := all1 f_repr (by simp [ho])
  have rn : reprOk number = true := all1 f_repr (by simp [hn])
  have rm : reprOk many = true := all1 f_repr (by simp [hm])
  have r0 : reprOk nil_ = true := all1 f_repr (by simp)
  intro q hq
  simp only [looksL, List.mem_cons, List.not_mem_nil, or_false] at hq
  have ev1 : ∀ (c : Cfg) (S : Sto) (σ : En) (i : Nat) (x : PyData), σ[i]? = some (some (.d x)) → evs c (.cons (.v i) .nil) σ S = .ok ([x].map .d) S := fun c S σ i x h => by
    simp only [evs_cons, evs_nil, ev_v, h, Option.join_some, R.opt_some, R.bind_ok, List.map_cons, List.map_nil]
  have ev2 : ∀ (c : Cfg) (S : Sto) (σ : En) (i j : Nat) (x y : PyData), σ[i]? = some (some (.d x)) → σ[j]? = some (some (.d y)) → evs c (.cons (.v i) (.cons (.v j) .nil)) σ S = .ok ([x, y].map .d) S := fun c S σ i j x y h h' => by
    simp only [evs_cons, evs_nil, ev_v, h, h', Option.join_some, R.opt_some, R.bind_ok, List.map_cons, List.map_nil]
  have ev3 : ∀ (c : Cfg) (S : Sto) (σ : En) (i : Nat) (x : PyData), σ[i]? = some (some (.d x)) → evs c (.cons (.v i) (.cons (.tup .nil) .nil)) σ S = .ok ([x, nil_].map .d) S := fun c S σ i x h => by
    simp only [evs_cons, evs_nil, ev_v, h, ev_tup, datas_nil, Option.join_some, R.opt_some, R.bind_ok, List.map_cons, List.map_nil]
  have ev4 : ∀ (c : Cfg) (S : Sto) (σ : En), evs c (.cons (.tup .nil) (.cons (.tup .nil) .nil)) σ S = .ok ([nil_, nil_].map .d) S := fun c S σ => by
    simp only [evs_cons, evs_nil, ev_tup, datas_nil, R.bind_ok, List.map_cons, List.map_nil]
  rcases hq with rfl | rfl | rfl | rfl | rfl | rfl | rfl | rfl | rfl | rfl | rfl | rfl | rfl | rfl | rfl | rfl
  · exact ⟨.inl ⟨rfl, rfl⟩, rb, fun _ _ _ _ _ _ _ _ => runG (f := i_poly_sum.fn) rfl rfl rfl rfl (fun c S => ev2 c S _ 3 4 bad other rfl rfl) (all2 f_sum hb ho)⟩
  · exact ⟨.inl ⟨rfl, rfl⟩, rb, fun _ _ _ _ _ _ _ _ => runG (f := i_poly_sum.fn) rfl rfl rfl rfl (fun c S => ev2 c S _ 8 3 good bad rfl rfl) (all1 f_sum2 hb)⟩
  · exact ⟨.inl ⟨rfl, rfl⟩, rb, fun _ _ _ _ _ _ _ _ => runG (f := i_poly_product.fn) rfl rfl rfl rfl (fun c S => ev2 c S _ 3 4 bad other rfl rfl) (all2 f_prod hb ho)⟩
  · exact ⟨.inl ⟨rfl, rfl⟩, ro, fun _ _ _ _ _ _ _ _ => runG (f := i_poly_product.fn) rfl rfl rfl rfl (fun c S => ev2 c S _ 8 4 good other rfl rfl) (all1 f_prod2 ho)⟩
  · exact ⟨.inl ⟨rfl, rfl⟩, rb, fun _ _ _ _ _ _ _ _ => runG (f := i_poly_divided.fn) rfl rfl rfl rfl (fun c S => ev2 c S _ 3 4 bad other rfl rfl) (all2 f_div hb ho)⟩
  · exact ⟨.inl ⟨rfl, rfl⟩, ro, fun _ _ _ _ _ _ _ _ => runG (f := i_poly_divided.fn) rfl rfl rfl rfl (fun c S => ev2 c S _ 8 4 good other rfl rfl) (all1 f_div2 ho)⟩
  · exact ⟨.inl ⟨rfl, rfl⟩, r0, fun _ _ _ _ _ _ _ _ => runG (f := i_poly_divided.fn) rfl rfl rfl rfl (fun c S => ev3 c S _ 8 good rfl) f_div3⟩
  · exact ⟨.inl ⟨rfl, rfl⟩, r0, fun _ _ _ _ _ _ _ _ => runG (f := i_poly_divided.fn) rfl rfl rfl rfl (fun c S => ev4 c S _) f_div4⟩
  · exact ⟨.inl ⟨rfl, rfl⟩, rb, fun _ _ _ _ _ _ _ _ => runG (f := i_poly_common.fn) rfl rfl rfl rfl (fun c S => ev2 c S _ 3 4 bad other rfl rfl) (all2 f_com hb ho)⟩
  · exact ⟨.inl ⟨rfl, rfl⟩, r0, fun _ _ _ _ _ _ _ _ => runG (f := i_poly_common.fn) rfl rfl rfl rfl (fun c S => ev4 c S _) f_com2⟩
  · exact ⟨.inl ⟨rfl, rfl⟩, rb, fun _ _ _ _ _ _ _ _ => runG (f := i_poly_slope.fn) rfl rfl rfl rfl (fun c S => ev1 c S _ 3 bad rfl) (all1 f_slope hb)⟩
  · exact ⟨.inl ⟨rfl, rfl⟩, rb, fun _ _ _ _ _ _ _ _ => runG (f := i_poly_text.fn) rfl rfl rfl rfl (fun c S => ev1 c S _ 3 bad rfl) (all1 f_text hb)⟩
  · exact ⟨.inl ⟨rfl, rfl⟩, rb, fun _ _ _ _ _ _ _ _ => runG (f := i_poly_value.fn) rfl rfl rfl rfl (fun c S => ev2 c S _ 3 5 bad number rfl rfl) (all2 f_val hb hn)⟩
  · exact ⟨.inr ⟨rfl, rfl⟩, rn, fun _ _ _ _ _ _ _ _ => runG (f := i_poly_value.fn) rfl rfl rfl rfl (fun c S => ev2 c S _ 8 5 good number rfl rfl) (all1 f_val2 hn)⟩
  · exact ⟨.inl ⟨rfl, rfl⟩, rb, fun _ _ _ _ _ _ _ _ => runG (f := i_poly_raised.fn) rfl rfl rfl rfl (fun c S => ev2 c S _ 3 7 bad many rfl rfl) (all2 f_rais hb hm)⟩
  · exact ⟨.inr ⟨rfl, rfl⟩, rm, fun _ _ _ _ _ _ _ _ => runG (f := i_poly_raised.fn) rfl rfl rfl rfl (fun c S => ev2 c S _ 8 7 good many rfl rfl) (all1 f_rais2 hm)⟩
end K35
set_option Elab.async false
set_option maxRecDepth 100000
set_option linter.unusedVariables false
set_option linter.unusedSimpArgs false
set_option exponentiation.threshold 10000
/-! K35k: one lap is right. -/
namespace K35
open PySem Pv L2
def isOk (r : R A) (x : PyData) : Bool := match r with
  | .ok (.d y) _ => eqD y x
  | _ => false
theorem isOk_onto {r : R A} {x : PyData} (h : isOk r x = true) (S : Sto) : r.onto S = .ok (.d x) S := by
  cases r with
  | ok a S' =>
    cases a with
    | d y => rw [eqD_eq h]; rfl
    | _ => cases h
  | _ => cases h
abbrev c58 (k : Nat) (xs : List PyData) : R A := callF (tabT ds) (lamT ls) 100 58 noLam k (xs.map .d) []
def wide : PyData := .tuple (repD [i2 0 1] 20 ++ [i2 1 1])
def great : PyData := .tuple [i2 (far - 1) 1, i2 1 (far - 1)]
theorem g_sum : isOk (c58 27 [wide, wide]) (.tuple (repD [i2 0 1] 20 ++ [i2 2 1])) = true := by decide +kernel
theorem g_val : isOk (c58 31 [great, i2 0 1]) (i2 (far - 1) 1) = true := by decide +kernel
theorem g_com : isOk (c58 30 [nil_, good]) (.tuple [good, nil_, .tuple [i2 1 1]]) = true := by decide +kernel
theorem g_div : isOk (c58 29 [nil_, good]) (.tuple [nil_, nil_]) = true := by decide +kernel
theorem call58 {lm : LamC} {k : Nat} {f : Fn} {xs : List PyData} {x : PyData} (hf : tabT ds k = some f) (hm : f.md = .pure) (hn : xs.length = f.np) (h : isOk (c58 k xs) x = true) (S : Sto) : callF (tabT ds) (lamT ls) 100 58 lm k (xs.map .d) S = .ok (.d x) S :=
  (pure_lift hf hm hn).trans (isOk_onto h S)
section
variable {r : Nat} {S : Sto}
theorem s7 {v1 v2 bad v4 v5 v6 v7 v8 v9 v10 v11 v12 v13 v14 v15 v16 : Option A} {x : PyData} (h0 : S[0]? = some (.tab 42)) : st (cR 100 55) q7 [some (.ref r), v1, v2, some (.d x), v4, v5, v6, v7, v8, v9, v10, v11, v12, v13, v14, v15, v16] S = .ok (.nx [some (.ref r), v1, v2, some (.d x), v4, v5, some (.ref S.length), v7, v8, v9, v10, v11, v12, v13, v14, v15, v16]) (S ++ [.lsa [look 0 0 x]]) := by
  have t := tup_look (F := 100) (d := 55) (S := S) (σ := [some (.ref r), v1, v2, some (.d x), v4, v5, v6, v7, v8, v9, v10, v11, v12, v13, v14, v15, v16]) (k := 0) (a := 0) (e := .v 3) (x := x) h0 (fun S => by simp only [ev_v, List.getElem?_cons_succ, List.getElem?_cons_zero, Option.join_some, R.opt_some])
  unfold q7
  rw [st_set, ev_lstA, evs_cons, t]
  simp only [R.bind_ok, evs_nil, List.set_cons_succ, List.set_cons_zero]
theorem fill {σ : En} {bad other number many : PyData} {T : Sto} {u : Ss} (h0 : T[0]? = some (.tab 42)) (h6 : σ[6]? = some (some (.ref T.length))) (h3 : σ[3]? = some (some (.d bad))) (h4 : σ[4]? = some (some (.d other))) (h5 : σ[5]? = some (some (.d number))) (h7 : σ[7]? = some (some (.d many))) :
    sts (cR 100 55) (.cons q8 (.cons q9 (.cons q10 (.cons q11 (.cons q12 (.cons q13 (.cons q14 (.cons q15 (.cons q16 (.cons q17 (.cons q18 (.cons q19 (.cons q20 (.cons q21 (.cons q22 u))))))))))))))) σ (T ++ [.lsa [look 0 0 bad]]) =
      sts (cR 100 55) u σ (T ++ [.lsa ((looksL bad other number many).map fun q => look q.1 q.2.2.1 q.2.2.2)]) := by
  have ev_ : ∀ (i : Nat) (x : PyData), σ[i]? = some (some (.d x)) → ∀ S, ev (cR 100 55) (.v i) σ S = .ok (.d x) S := fun i x h S => by simp only [ev_v, h, Option.join_some, R.opt_some]
  have e3 := ev_ 3 bad h3
  have e4 := ev_ 4 other h4
  have e5 := ev_ 5 number h5
  have e7 := ev_ 7 many h7
  have en : ∀ S, ev (cR 100 55) (.tup .nil) σ S = .ok (.d nil_) S := fun S => by simp only [ev_tup, evs_nil, R.bind_ok, datas_nil]
  have step : ∀ (k : Nat) (a : Int) (e : Ex) (x : PyData) (as : List A) (u : Ss), as.length < 100 → (∀ S, ev (cR 100 55) e σ S = .ok (.d x) S) → sts (cR 100 55) (.cons (.app (.v 6) (.tup (.cons (.mk k 0 42) (.cons (.k (.int a)) (.cons e .nil))))) u) σ (T ++ [.lsa as]) = sts (cR 100 55) u σ (T ++ [.lsa (as ++ [look k a x])]) := fun k a e x as u hl he => by
    rw [sts_cons, app_look h0 h6 hl he, R.bind_ok]
  unfold q8 q9 q10 q11 q12 q13 q14 q15 q16 q17 q18 q19 q20 q21 q22
  rw [step 1 0 (.v 3) bad _ _ (by simp) e3, step 2 0 (.v 3) bad _ _ (by simp) e3, step 3 0 (.v 4) other _ _ (by simp) e4, step 4 0 (.v 3) bad _ _ (by simp) e3, step 5 0 (.v 4) other _ _ (by simp) e4, step 6 0 (.tup .nil) nil_ _ _ (by simp) en, step 7 0 (.tup .nil) nil_ _ _ (by simp) en,
    step 8 0 (.v 3) bad _ _ (by simp) e3, step 9 0 (.tup .nil) nil_ _ _ (by simp) en, step 10 0 (.v 3) bad _ _ (by simp) e3, step 11 0 (.v 3) bad _ _ (by simp) e3, step 12 0 (.v 3) bad _ _ (by simp) e3, step 13 1 (.v 5) number _ _ (by simp) e5, step 14 0 (.v 3) bad _ _ (by simp) e3, step 15 1 (.v 7) many _ _ (by simp) e7]
  rfl
theorem s24 {v0 v2 v3 v4 v5 v6 v7 v8 v9 v10 v11 v12 v13 v14 v15 v16 : Option A} : st (cR 100 55) q24 [v0, some (.d (.int far)), v2, v3, v4, v5, v6, v7, v8, v9, v10, v11, v12, v13, v14, v15, v16] S = .ok (.nx [v0, some (.d (.int far)), v2, v3, v4, v5, v6, v7, v8, v9, v10, v11, v12, v13, some (.d wide), some (.d great), v16]) S := by
  have b1 : binD .mul (.tuple [i2 0 1]) (.int 20) = some (.tuple (repD [i2 0 1] 20)) := rfl
  have b2 : binD .add (.tuple (repD [i2 0 1] 20)) (.tuple [i2 1 1]) = some wide := by
    have e : ∀ a b : List PyData, binD .add (.tuple a) (.tuple b) = if a ≠ [] ∧ b ≠ [] ∧ a.length + b.length ≤ sizeLine then some (.tuple (a ++ b)) else none := fun _ _ => rfl
    rw [e, if_pos ⟨by decide, by decide, by rw [sizeLine_eq]; decide⟩]; rfl
  have f1 : PyData.tuple [.int 0, .int 1] = i2 0 1 := rfl
  have f2 : PyData.tuple [.int 1, .int 1] = i2 1 1 := rfl
  unfold q24
  simp only [st_par, ev_bin, ev_tup, evs_cons, evs_nil, ev_k, ev_v, List.getElem?_cons_succ, List.getElem?_cons_zero, Option.join_some, R.opt_some, R.bind_ok, datas_d, datas_nil, Option.map_some, rd_d, Option.bind_some, f1, f2, b1, b2, binD_sub, List.set_cons_succ, List.set_cons_zero]
  rfl
theorem s25 {v0 v2 v3 v4 v5 v6 v7 v8 v9 v10 v11 v12 v13 v16 : Option A} : st (cR 100 55) q25 [v0, some (.d (.int far)), v2, v3, v4, v5, v6, v7, v8, v9, v10, v11, v12, v13, some (.d wide), some (.d great), v16] S = .ok (.nx [v0, some (.d (.int far)), v2, v3, v4, v5, v6, v7, v8, v9, v10, v11, v12, v13, some (.d wide), some (.d great), v16]) S := by
  have c1 := fun lm => call58 (lm := lm) (f := i_poly_sum.fn) rfl rfl rfl g_sum S
  have c2 := fun lm => call58 (lm := lm) (f := i_poly_value.fn) rfl rfl rfl g_val S
  simp only [List.map_cons, List.map_nil] at c1 c2
  have i1 : atI (repD [i2 0 1] 20 ++ [i2 2 1]) 20 = some (i2 2 1) := by rfl
  have n1 : cmpD .ne (i2 2 1) (i2 2 1) = some false := by decide +kernel
  have n2 : cmpD .ne (i2 (far - 1) 1) (i2 (far - 1) 1) = some false := by decide +kernel
  have f1 : PyData.tuple [.int 0, .int 1] = i2 0 1 := rfl
  have f2 : PyData.tuple [.int 2, .int 1] = i2 2 1 := rfl
  have f3 : PyData.tuple [.int (far - 1), .int 1] = i2 (far - 1) 1 := rfl
  unfold q25
  simp only [st_ife, ev_or, ev_cmp, ev_ix, ev_call, evs_cons, evs_nil, ev_v, ev_k, List.getElem?_cons_succ, List.getElem?_cons_zero, Option.join_some, R.opt_some, R.bind_ok, c1, ixA_d, ixD_t, i1, Option.map_some, ev_tup, datas_d, datas_nil, f1, f2, cmpA_d, n1, rd_d, Option.bind_some, truthD_b, c2, ev_bin, binD_sub, f3, n2, sts_nil]
theorem s26 {v0 v1 v2 v3 v4 v5 v6 v7 v9 v10 v11 v12 v13 v14 v15 v16 : Option A} : st (cR 100 55) q26 [v0, v1, v2, v3, v4, v5, v6, v7, some (.d good), v9, v10, v11, v12, v13, v14, v15, v16] S = .ok (.rt (.d (.bool true))) S := by
  have c1 := fun lm => call58 (lm := lm) (f := i_poly_common.fn) rfl rfl rfl g_com S
  have c2 := fun lm => call58 (lm := lm) (f := i_poly_divided.fn) rfl rfl rfl g_div S
  simp only [List.map_cons, List.map_nil] at c1 c2
  have i1 : atI [good, nil_, .tuple [i2 1 1]] 0 = some good := by rfl
  have n1 : cmpD .eq good good = some true := by decide +kernel
  have n2 : cmpD .eq (.tuple [nil_, nil_]) (.tuple [nil_, nil_]) = some true := by decide +kernel
  unfold q26
  simp only [st_ret, ev_and, ev_cmp, ev_ix, ev_call, evs_cons, evs_nil, ev_v, ev_k, List.getElem?_cons_succ, List.getElem?_cons_zero, Option.join_some, R.opt_some, R.bind_ok, ev_tup, datas_d, datas_nil, Option.map_some, c1, ixA_d, ixD_t, i1, cmpA_d, n1, rd_d, Option.bind_some, truthD_b, c2, n2]
end
end K35
set_option Elab.async false
set_option maxRecDepth 100000
set_option linter.unusedVariables false
set_option linter.unusedSimpArgs false
set_option exponentiation.threshold 10000
/-! K35l: one lap of the law. -/
namespace K35
open PySem Pv L2
theorem cf_me {lm : LamC} {as : List A} {S : Sto} (hpl : S.all plainO = true) (ha : as.all plainA = true) (hl : as.length = 1) : callF (tabT ds) (lamT ls) 100 59 lm 42 as S = outMe (outOf S.length (sts (cR 100 55) b_law_right (Pv.start 17 as) S)) := by
  have eT : tabT ds 42 = some i_law_right.fn := rfl
  show callF (tabT ds) (lamT ls) 100 (58 + 1) lm 42 as S = _
  simp only [callF, eT]
  rw [if_pos (show as.length = i_law_right.fn.np from hl)]
  show (if S.all plainO = true ∧ as.all plainA = true then outMe (outOf S.length (sts (cR 100 55) b_law_right (Pv.start 17 as) S)) else .no) = _
  rw [if_pos ⟨hpl, ha⟩]
theorem sts_nx {c : Cfg} {z : Sm} {u : Ss} {σ σ' : En} {S S' : Sto} (h : st c z σ S = .ok (.nx σ') S') : sts c (.cons z u) σ S = sts c u σ' S' := by
  rw [sts_cons, h]; rfl
theorem sts_rt {c : Cfg} {z : Sm} {u : Ss} {σ : En} {S S' : Sto} {a : A} (h : st c z σ S = .ok (.rt a) S') : sts c (.cons z u) σ S = .ok (.rt a) S' := by
  rw [sts_cons, h]; rfl
theorem w_right (lm : LamC) {r n : Nat} {S : Sto} (hp : PotN r n S) (h0 : S[0]? = some (.tab 42)) (hr0 : r ≠ 0) (hn : n + 40 < 2 ^ 40) :
    ∃ S', callF (tabT ds) (lamT ls) 100 59 lm 42 [.ref r] S = .ok (.d (.bool true)) S' ∧ PotN r (n + 4) S' ∧ S'.length = S.length ∧ S'[0]? = some (.tab 42) := by
  have hr : r < S.length := by
    obtain ⟨a, b, c, h, _⟩ := hp.at_
    exact (List.getElem?_eq_some_iff.mp h).1
  have p2 : PotN r n (S ++ [.lst oddL]) := by
    obtain ⟨⟨a, b, c, h, h'⟩, pl⟩ := hp
    refine ⟨⟨a, b, c, by rw [List.getElem?_append_left hr]; exact h, h'⟩, ?_⟩
    rw [List.all_append, pl]; rfl
  have o2 : (S ++ [O.lst oddL])[S.length]? = some (.lst oddL) := by simp
  obtain ⟨bad, S3, e3, hb, p3, l3, k3⟩ := s3 (F := 100) (d := 55) (by omega) (v3 := none) (v4 := none) (v5 := none) (v6 := none) (v7 := none) (v8 := none) (v9 := none) (v10 := none) (v11 := none) (v12 := none) (v13 := none) (v14 := none) (v15 := none) (v16 := none) p2 (by omega) o2
  obtain ⟨other, S4, e4, ho, p4, l4, k4⟩ := s4 (F := 100) (d := 55) (by omega) (v1 := some (.d (.int far))) (v2 := some (.ref S.length)) (v3 := some (.d bad)) (v4 := none) (v5 := none) (v6 := none) (v7 := none) (v8 := none) (v9 := none) (v10 := none) (v11 := none) (v12 := none) (v13 := none) (v14 := none) (v15 := none) (v16 := none) p3 (by omega)
  obtain ⟨number, S5, e5, hnu, p5, l5, k5⟩ := s5 (F := 100) (d := 55) (by omega) (v2 := some (.ref S.length)) (v3 := some (.d bad)) (v4 := some (.d other)) (v5 := none) (v6 := none) (v7 := none) (v8 := none) (v9 := none) (v10 := none) (v11 := none) (v12 := none) (v13 := none) (v14 := none) (v15 := none) (v16 := none) p4 (by omega)
  obtain ⟨many, S6, e6, hm, p6, l6, k6⟩ := s6 (F := 100) (d := 55) (by omega) (v1 := some (.d (.int far))) (v2 := some (.ref S.length)) (v3 := some (.d bad)) (v4 := some (.d other)) (v5 := some (.d number)) (v6 := none) (v7 := none) (v8 := none) (v9 := none) (v10 := none) (v11 := none) (v12 := none) (v13 := none) (v14 := none) (v15 := none) (v16 := none) p5 (by omega)
  have len6 : S6.length = S.length + 1 := by rw [l6, l5, l4, l3]; simp
  have t6 : S6[0]? = some (.tab 42) := by
    rw [k6 0 (Ne.symm hr0), k5 0 (Ne.symm hr0), k4 0 (Ne.symm hr0), k3 0 (Ne.symm hr0), List.getElem?_append_left (by omega)]
    exact h0
  let L : List A := (looksL bad other number many).map fun q => look q.1 q.2.2.1 q.2.2.2
  have hS : (S6 ++ [O.lsa L])[S6.length]? = some (.lsa L) := by simp
  have ok7 : okS (S6 ++ [O.lsa L]) := (plain_ok p6.pl).app fun n => rfl
  obtain ⟨w9, w10, w11, w12, w13, e23⟩ := loop (v0 := some (.ref r)) (v1 := some (.d (.int far))) (v2 := some (.ref S.length)) (v3 := some (.d bad)) (v4 := some (.d other)) (v5 := some (.d number)) (v6 := some (.ref S6.length)) (v7 := some (.d many)) (v8 := some (.d good)) (v14 := none) (v15 := none) (v16 := none) hS ok7 (looksL bad other number many) 0 100 none none none none none (looks_ok hb ho hnu hm) rfl (by show 16 < 100; decide)
  have h23 : st (cR 100 55) q23 [some (.ref r), some (.d (.int far)), some (.ref S.length), some (.d bad), some (.d other), some (.d number), some (.ref S6.length), some (.d many), some (.d good), none, none, none, none, none, none, none, none] (S6 ++ [O.lsa L]) = .ok (.nx [some (.ref r), some (.d (.int far)), some (.ref S.length), some (.d bad), some (.d other), some (.d number), some (.ref S6.length), some (.d many), some (.d good), w9, w10, w11, w12, w13, none, none, none]) (S6 ++ [O.lsa L]) := by
    rw [q23_eq, st_forL, ev_v]
    simp only [List.getElem?_cons_succ, List.getElem?_cons_zero, Option.join_some, R.opt_some, Pv.R.bind_ok]
    exact e23
  have run : sts (cR 100 55) b_law_right (Pv.start 17 [.ref r]) S = .ok (.rt (.d (.bool true))) (S6 ++ [O.lsa L]) := by
    rw [body_eq]
    show sts (cR 100 55) _ [some (.ref r), none, none, none, none, none, none, none, none, none, none, none, none, none, none, none, none] S = _
    rw [sts_nx s1, sts_nx s2, sts_nx e3, sts_nx e4, sts_nx e5, sts_nx e6, sts_nx (s7 (bad := none) t6)]
    rw [fill (bad := bad) (other := other) (number := number) (many := many) t6 rfl rfl rfl rfl rfl]
    rw [sts_nx h23, sts_nx s24, sts_nx s25, sts_rt s26]
  have tk : (S6 ++ [O.lsa L]).take S.length = S6.take S.length := List.take_append_of_le_length (by omega)
  have pl' : (S6.take S.length).all plainO = true := by
    have z := p6.pl
    rw [List.all_eq_true] at z ⊢
    exact fun o ho => z o (List.mem_of_mem_take ho)
  refine ⟨S6.take S.length, ?_, ⟨?_, pl'⟩, by simp; omega, ?_⟩
  · rw [cf_me hp.pl rfl rfl, run, outOf_rt]
    unfold fin
    simp only [frz_d]
    rw [ok7.cut, tk]
    show (if (S6.take S.length).all plainO = true then _ else _) = _
    rw [if_pos pl']
  · obtain ⟨a, b, c, h, h'⟩ := p6.at_
    refine ⟨a, b, c, ?_, h'⟩
    rw [List.getElem?_take, if_pos hr]; exact h
  · rw [List.getElem?_take, if_pos (by omega)]; exact t6
end K35
set_option Elab.async false
set_option maxRecDepth 100000
set_option linter.unusedVariables false
set_option linter.unusedSimpArgs false
set_option exponentiation.threshold 10000
/-! K35m: the law's own parts. -/
namespace K35
open PySem Pv L2
theorem w_pot (F d : Nat) (hd : 1 ≤ d) (lm : LamC) {ns : List Int} {p : Nat} (hp : p ≤ 2) (h : ns = [] ∨ p < ns.length) (S : Sto) (hpl : S.all plainO = true) :
    ∃ xs, CF F d lm 37 [.d (.list (ns.map PyData.int)), .d (.int (p : Int))] S = .ok (.ref S.length) (S ++ [.lst xs]) ∧ PotN S.length 0 (S ++ [.lst xs]) := by
  obtain ⟨d, rfl⟩ : ∃ e, d = e + 1 := ⟨d - 1, by omega⟩
  -- the rest, from the cell
  have rest : ∀ (z : Int) (v3 v4 : Option A), ∃ xs, outKeep (sts ⟨callF (tabT ds) (lamT ls) F d, fun _ => lm, F, d, none⟩ (.cons (.set 3 (.bin .mul (.bin .mod (.bi .int (.cons (.bi .abs (.cons (.v 2) .nil)) .nil)) (.bin .pow (.bin .pow (.k (.int 10)) (.k (.int 60))) (.k (.int 5)))) (.bi .int (.cons (.cmp .ge (.bi .abs (.cons (.v 2) .nil)) (.bin .pow (.k (.int 10)) (.k (.int 18)))) .nil)))) (.cons (.set 4 (.bin .mod (.bi .int (.cons (.v 2) .nil)) (.k (.int 2305843009213693951)))) (.cons (.ret (.lstM (.cons (.v 3) (.cons (.bin .mod (.bi .int (.cons (.bin .add (.bin .add (.bin .mul (.v 4) (.k (.int 590693))) (.bin .mul (.bin .mul (.k (.int 100381)) (.v 1)) (.v 1))) (.k (.int 61151))) .nil)) (.k (.int 2305843009213693921))) (.cons (.k (.int 0)) .nil))))) .nil))) [some (.d (.list (ns.map PyData.int))), some (.d (.int (p : Int))), some (.d (.int z)), v3, v4] S) = .ok (.ref S.length) (S ++ [.lst xs]) ∧ PotN S.length 0 (S ++ [.lst xs]) := by
    intro z v3 v4
    generalize hm : (if z < 0 then -z else z) = m
    have m0 : 0 ≤ m := by rw [← hm]; split <;> omega
    have pw1 : powOk 10 60 = true := by decide
    have pw2 : powOk (10 ^ 60) 5 = true := by decide +kernel
    have pw3 : powOk 10 18 = true := by decide
    have e1 : (10 : Int) ^ (60 : Int).toNat = 10 ^ 60 := rfl
    have e2 : ((10 : Int) ^ 60) ^ (5 : Int).toNat = 10 ^ 300 := by decide +kernel
    have hB : ¬ ((10 : Int) ^ 300 = 0) := by decide +kernel
    have hB0 : (0 : Int) < 10 ^ 300 := by decide +kernel
    have hB1 : (10 : Int) ^ 300 < 2 ^ 999 := by decide +kernel
    have hB1' : ((10 : Int) ^ 300) ≤ ((2 ^ 999 : Nat) : Int) := by decide +kernel
    generalize hE : (10 : Int) ^ 300 = B at *
    have k1 := fmod_nn m hB0
    have k2 := fmod_nn z (show (0 : Int) < 2305843009213693951 by omega)
    generalize hu : m.fmod B = u at *
    generalize hw : z.fmod 2305843009213693951 = w at *
    have un : u.natAbs < 2 ^ 999 := by omega
    have wn : w.natAbs < 2 ^ 62 := by omega
    have pn : (p : Int).natAbs < 2 ^ 2 := by omega
    have mu : ∀ b : Bool, mulOk u (bI b) = true := fun b => mul_ok un (m := 1) (by cases b <;> decide) (by omega)
    have m1 : mulOk w 590693 = true := mul_ok wn (m := 20) (by decide) (by omega)
    have m2 : mulOk 100381 (p : Int) = true := mul_ok (n := 17) (by decide) pn (by omega)
    have m3 : mulOk (100381 * (p : Int)) p = true := mul_ok (nab_mul (n := 17) (by decide) pn) pn (by omega)
    let b := (w * 590693 + 100381 * (p : Int) * p + 61151).fmod 2305843009213693921
    have kb := fmod_nn (w * 590693 + 100381 * (p : Int) * p + 61151) (show (0 : Int) < 2305843009213693921 by omega)
    refine ⟨[.int (u * bI (decide (10 ^ 18 ≤ m))), .int b, .int 0], ?_, ⟨⟨u * bI (decide (10 ^ 18 ≤ m)), b, 0, by simp, ?_, ?_, kb.1, ?_, by omega, by omega⟩, by rw [List.all_append, hpl]; rfl⟩⟩
    · have e18 : (10 : Int) ^ (18 : Int).toNat = 10 ^ 18 := rfl
      simp only [sts_cons, st_set, st_ret, sts_nil, ev_bin, ev_bi, ev_cmp, ev_lstM, evs_cons, evs_nil, ev_v, ev_k, R.bind_ok, R.opt_some, List.getElem?_cons_zero, List.getElem?_cons_succ, Option.join_some, rds_cons, rds_nil, rd_d, Option.bind_some, Option.map_some, List.map_cons, List.map_nil, biD_abs, biD_int_i, biD_int_b, hm, binD_pow, pw1, e1, pw2, e2, hE, if_true, binD_mod, hu, ne_eq, hB, not_false_eq_true, cmpD_ge, pw3, e18, binD_mul, mu, List.set_cons_zero, List.set_cons_succ, hw]
      simp [m1, m2, m3, hw, b, mu]
    · exact Int.mul_nonneg k1.1 (by unfold bI; split <;> omega)
    · have h1 : (bI (decide ((10 : Int) ^ 18 ≤ m))).natAbs < 2 ^ 1 := by unfold bI; split <;> decide
      exact nab_le (nab_mul un h1) (by omega)
    · show b.natAbs < 2 ^ 62
      have h1 : 0 ≤ b := kb.1
      have h2 : b < 2305843009213693921 := kb.2
      omega
  rcases h with rfl | h
  · obtain ⟨xs, r1, r2⟩ := rest (0 + 90767 * (p : Int) + 113965) none none
    refine ⟨xs, ?_, r2⟩
    rw [← r1]
    refine (cf_keep (f := i_law_pot.fn) rfl rfl rfl).trans ?_
    have h0 : ¬ ((p : Int) < 0) := by omega
    have m2 : mulOk 90767 (p : Int) = true := mul_ok (n := 17) (m := 2) (by decide) (by omega) (by omega)
    have hs : sliceD (.list []) none (some 1) = some (.list []) := by simp [sliceD, cutD]
    have es : st ⟨callF (tabT ds) (lamT ls) F d, fun _ => lm, F, d, none⟩ (.set 2 (.ite (.cmp .lt (.v 1) (.bi .len (.cons (.v 0) .nil))) (.ix (.v 0) (.v 1)) (.bin .add (.bin .add (.bin .mod (.bi .sum (.cons (.slice (.v 0) .nil (.cons (.k (.int 1)) .nil)) .nil)) (.k (.int 1000003))) (.bin .mul (.k (.int 90767)) (.v 1))) (.k (.int 113965))))) (Pv.start 5 [.d (.list (([] : List Int).map PyData.int)), .d (.int (p : Int))]) S = .ok (.nx [some (.d (.list (([] : List Int).map PyData.int))), some (.d (.int (p : Int))), some (.d (.int (0 + 90767 * (p : Int) + 113965))), none, none]) S := by
      simp [Pv.start, h0, m2, optI, hs]
    simp only [i_law_pot, b_law_pot]
    rw [sts_cons, es, R.bind_ok]
  · obtain ⟨xs, r1, r2⟩ := rest ns[p] none none
    refine ⟨xs, ?_, r2⟩
    rw [← r1]
    refine (cf_keep (f := i_law_pot.fn) rfl rfl rfl).trans ?_
    have h0 : ((p : Int) < ns.length) := by omega
    have e : atI (ns.map PyData.int) (p : Int) = some (.int ns[p]) := by rw [atN, List.getElem?_map, List.getElem?_eq_getElem h]; rfl
    have es : st ⟨callF (tabT ds) (lamT ls) F d, fun _ => lm, F, d, none⟩ (.set 2 (.ite (.cmp .lt (.v 1) (.bi .len (.cons (.v 0) .nil))) (.ix (.v 0) (.v 1)) (.bin .add (.bin .add (.bin .mod (.bi .sum (.cons (.slice (.v 0) .nil (.cons (.k (.int 1)) .nil)) .nil)) (.k (.int 1000003))) (.bin .mul (.k (.int 90767)) (.v 1))) (.k (.int 113965))))) (Pv.start 5 [.d (.list (ns.map PyData.int)), .d (.int (p : Int))]) S = .ok (.nx [some (.d (.list (ns.map PyData.int))), some (.d (.int (p : Int))), some (.d (.int ns[p])), none, none]) S := by
      simp [Pv.start, h0, h, e]
    simp only [i_law_pot, b_law_pot]
    rw [sts_cons, es, R.bind_ok]
theorem w_cells (F d : Nat) (hd : 1 ≤ d) (lm : LamC) (xs : List PyData) (S : Sto) : CF F d lm 38 [.d (.list xs), .d (.int 3)] S = .ok (.d (.list (rngD (max 1 (min 3 xs.length))))) S := by
  obtain ⟨d, rfl⟩ : ∃ e, d = e + 1 := ⟨d - 1, by omega⟩
  refine (cf_pure (f := i_law_cells.fn) (xs := [.list xs, .int 3]) rfl rfl rfl).trans ?_
  have e : ∃ m : Nat, (if (if (xs.length : Int) < 3 then (xs.length : Int) else 3) > 1 then (if (xs.length : Int) < 3 then (xs.length : Int) else 3) else 1 : Int) = m ∧ m = max 1 (min 3 xs.length) ∧ m ≤ 3 := by
    by_cases h : xs.length < 3
    · by_cases h2 : 1 < xs.length
      · exact ⟨xs.length, by rw [if_pos (show (xs.length : Int) < 3 by omega), if_pos (by omega)], by omega, by omega⟩
      · exact ⟨1, by rw [if_pos (show (xs.length : Int) < 3 by omega), if_neg (by omega)]; rfl, by omega, by omega⟩
    · exact ⟨3, by rw [if_neg (show ¬ (xs.length : Int) < 3 by omega), if_pos (by omega)]; rfl, by omega, by omega⟩
  obtain ⟨m, h1, h2, h3⟩ := e
  rw [← h2]
  simp only [i_law_cells, b_law_cells, Pv.start]
  simp only [sts_cons, st_ret, ev_bi, evs_cons, ev_k, ev_v, evs_nil, R.bind_ok, rds_cons, rds_nil, rd_d, biD_len_l, biD_min, biD_max, List.getElem?_cons_zero, List.getElem?_cons_succ, Option.join_some, R.opt_some, Option.bind_some, Option.map_some, List.map_cons, List.map_nil, List.length_cons, List.length_nil, List.replicate, List.append_nil, Nat.sub_self, Nat.reduceAdd, Nat.reduceSub, List.cons_append, List.nil_append]
  rw [h1]
  simp [show (m : Int).natAbs ≤ 10000000 by omega, show m ≤ 10000000 by omega]
  rfl
end K35
set_option Elab.async false
set_option maxRecDepth 100000
set_option linter.unusedVariables false
set_option linter.unusedSimpArgs false
set_option exponentiation.threshold 10000
/-! K35n: the law. -/
namespace K35
open PySem Pv L2
/-- within the law -/
abbrev cL : Cfg := ⟨callF (tabT ds) (lamT ls) 100 59, fun _ => noLam, 100, 59, none⟩
theorem laps {r : Nat} {σ : En} (hσ : σ[2]? = some (some (.ref r))) (h3 : 3 < σ.length) (hr0 : r ≠ 0) : ∀ (l : List PyData) (n : Nat) (S : Sto), PotN r n S → S[0]? = some (.tab 42) → n + 4 * l.length < 1000 →
    ∃ (ys : List Bool) (S' : Sto), lcGo (lcF cL.blk (.n 3) [3] (.call 42 (.cons (.v 2) .nil)) .nil σ) l S = .ok (ys.map PyData.bool) S' ∧ ys.all id = true ∧ S'.length = S.length ∧ S'[0]? = some (.tab 42) ∧ S'.all plainO = true := by
  intro l
  induction l with
  | nil => intro n S hp h0 hn; exact ⟨[], S, rfl, rfl, rfl, h0, hp.pl⟩
  | cons x l ih =>
    intro n S hp h0 hn
    simp only [List.length_cons] at hn
    obtain ⟨S1, e1, p1, l1, t1⟩ := w_right noLam hp h0 hr0 (by omega)
    obtain ⟨ys, S2, e2, a2, l2, t2, q2⟩ := ih (n + 4) S1 p1 t1 (by omega)
    refine ⟨true :: ys, S2, ?_, by simpa using a2, by omega, t2, q2⟩
    rw [lcGo_cons']
    have ex : lcF cL.blk (.n 3) [3] (.call 42 (.cons (.v 2) .nil)) .nil σ x S = .ok (some (.bool true)) S1 := by
      have h2 : ((σ.set 3 none).set 3 (some (.d x)))[2]? = some (some (.ref r)) := by simp [hσ]
      simp only [lcF, setTg_n, wipeD_cons, wipeD_nil, evs_nil, lcOne_nil, ev_call, evs_cons, ev_v, h2, Option.join_some, R.opt_some, R.bind_ok]
      show (keepD (callF (tabT ds) (lamT ls) 100 59 noLam 42 [.ref r] S)).calm = _
      rw [e1]
      rfl
    rw [ex, R.bind_ok, e2, R.bind_ok]
    rfl
theorem asBools_map (ys : List Bool) : asBools (ys.map PyData.bool) = some ys := by
  induction ys with
  | nil => rfl
  | cons y ys ih => rw [List.map_cons, asBools_cons, ih]; rfl
def bl_ : Ss := match b_law with
  | .cons (.for_ _ _ b) _ => b
  | _ => .nil
theorem turns {ns : List Int} : ∀ (l : List Nat) (u v w : Option A) (S : Sto), S[0]? = some (.tab 42) → S.all plainO = true → (∀ p ∈ l, p ≤ 2 ∧ (ns = [] ∨ p < ns.length)) →
    ∃ u' v' w' S', forGo (forF cL (.n 1) bl_) (l.map fun i : Nat => PyData.int (i : Int)) [some (.d (.list (ns.map PyData.int))), u, v, w] S = .ok (.nx [some (.d (.list (ns.map PyData.int))), u', v', w']) S' ∧ S'.all plainO = true ∧ S.length ≤ S'.length := by
  intro l
  induction l with
  | nil => intro u v w S _ hp _; exact ⟨u, v, w, S, by simp [forGo], hp, Nat.le_refl _⟩
  | cons p l ih =>
    intro u v w S h0 hpl hl
    obtain ⟨hp, hns⟩ := hl p List.mem_cons_self
    obtain ⟨xs, e1, pt⟩ := w_pot 100 59 (by omega) noLam hp hns S hpl
    have hS0 : 0 < S.length := (List.getElem?_eq_some_iff.mp h0).1
    have t0 : (S ++ [O.lst xs])[0]? = some (.tab 42) := by rw [List.getElem?_append_left hS0]; exact h0
    obtain ⟨ys, S2, e2, a2, l2, t2, q2⟩ := laps (σ := [some (.d (.list (ns.map PyData.int))), some (.d (.int (p : Int))), some (.ref S.length), w]) rfl (by simp) (by omega) (rngD 4) 0 _ pt t0 (by decide)
    obtain ⟨u', v', w', S', e3, q3, l3⟩ := ih (some (.d (.int (p : Int)))) (some (.ref S.length)) w S2 t2 q2 fun q hq => hl q (List.mem_cons_of_mem _ hq)
    refine ⟨u', v', w', S', ?_, q3, by simp at l2; omega⟩
    rw [← e3, List.map_cons]
    have al : ys.all id = true := a2
    simp only [forGo, forF, setTg_n]
    have rg : rngOf [.d (.int 4)] = some (rngD 4) := by rfl
    have body : sts cL bl_ ([some (.d (.list (ns.map PyData.int))), u, v, w].set 1 (some (.d (.int (p : Int))))) S =
        .ok (.nx [some (.d (.list (ns.map PyData.int))), some (.d (.int (p : Int))), some (.ref S.length), w]) S2 := by
      have e1' : callF (tabT ds) (lamT ls) 100 59 noLam 37 [.d (.list (ns.map PyData.int)), .d (.int (p : Int))] S = .ok (.ref S.length) (S ++ [.lst xs]) := e1
      simp only [bl_, b_law, sts_cons, st_set, ev_call, evs_cons, evs_nil, ev_v, List.set_cons_zero, List.set_cons_succ, List.getElem?_cons_zero, List.getElem?_cons_succ, Option.join_some, R.opt_some, R.bind_ok, e1', st_ife, ev_not, ev_bi, ev_lc, evI_rng, ev_k, rg]
      rw [e2]
      simp only [R.bind_ok, rds_cons, rds_nil, rd_d, Option.bind_some, Option.map_some, biD_all, asBools_map, al, R.opt_some, truthD_b, Bool.not_true, sts_nil]
    rw [body, R.bind_ok]
theorem law : ∀ ns : List Int, ns.length ≤ 63 → (∀ z ∈ ns, Builtin.Int.intBits z ≤ 1048576) → ∃ S, callF (tabT ds) (lamT ls) 100 60 noLam 43 [.d (.list (ns.map PyData.int))] [.tab 42] = .ok (.d (.bool true)) S := by
  intro ns hl hb
  have e1 := w_cells 100 59 (by omega) noLam (ns.map PyData.int) [.tab 42]
  rw [List.length_map] at e1
  obtain ⟨u, v, w, S', e2, q2, l2⟩ := turns (ns := ns) (List.range (max 1 (min 3 ns.length))) none none none [.tab 42] rfl rfl fun p hp => by
    rw [List.mem_range] at hp
    refine ⟨by omega, ?_⟩
    cases ns with
    | nil => exact .inl rfl
    | cons a r => right; simp only [List.length_cons] at hp ⊢; omega
  refine ⟨S'.take 1, ?_⟩
  refine (cf_std (f := i_law.fn) rfl rfl rfl).trans ?_
  have e1' : callF (tabT ds) (lamT ls) 100 59 noLam 38 [.d (.list (ns.map PyData.int)), .d (.int 3)] [.tab 42] = .ok (.d (.list (rngD (max 1 (min 3 ns.length))))) [.tab 42] := e1
  have bb : i_law.fn.body = .cons (.for_ (.n 1) (.e (.call 38 (.cons (.v 0) (.cons (.k (.int 3)) .nil)))) bl_) (.cons (.ret (.k (.bool true))) .nil) := rfl
  rw [bb]
  have h1 : st cL (.for_ (.n 1) (.e (.call 38 (.cons (.v 0) (.cons (.k (.int 3)) .nil)))) bl_) (Pv.start i_law.fn.nn [.d (.list (ns.map PyData.int))]) [.tab 42] = .ok (.nx [some (.d (.list (ns.map PyData.int))), u, v, w]) S' := by
    rw [st_for]
    show (evI cL _ [some (.d (.list (ns.map PyData.int))), none, none, none] [.tab 42]).bind _ = _
    simp only [evI_e, ev_call, evs_cons, evs_nil, ev_v, ev_k, List.getElem?_cons_zero, Option.join_some, R.opt_some, R.bind_ok, e1', itemsOf_l]
    exact e2
  rw [sts_nx h1, sts_rt (a := .d (.bool true)) (S' := S') (by simp only [st_ret, ev_k, R.bind_ok]), outOf_rt]
  unfold fin
  simp only [frz_d]
  rw [(plain_ok q2).cut]
  rfl
end K35
set_option Elab.async false
set_option maxRecDepth 100000
open PySem PySem.W PyProof.Rows
set_option maxRecDepth 100000 in
set_option maxHeartbeats 0 in
theorem PySem.Challenge.cw_whennumbersstop_k35_refusals_of_polynomi_holds : PySem.Challenge.rw_whennumbersstop_k35_refusals_of_polynomi.Holds := by
  w_on; o_law; k_head; (case hw => w_witness2)
  k_fill
  refine Pv.walk_tab (l := PySem.Challenge.rw_whennumbersstop_k35_refusals_of_polynomi) (ds := K35.ds) (ls := K35.ls) (cs := K35.cs) (G := K35.G) (im := K35.im) (bl := K35.bl) (n := 63) (depth := 60) (fuel := 100) (k := 43) (j := 42) (i := K35.i_law) rfl (by decide) rfl ⟨rfl, by decide, by decide⟩ rfl rfl rfl K35.all_s K35.all_l (fun w h Y => PySem.W.km_in_of Y) ?F K35.law
  case F =>
    intro w mg h KX Gs
    have h_is_integer := by
      refine' K35.def1_mk KX K35.i_is_integer ?a ?l ?c ?k
      (case a => k_is)
      (case l => k_is)
      (case c => k_is)
      (case k => k_is)
    have h_is_between := by
      refine' K35.def1_mk KX K35.i_is_between ?a ?l ?c ?k
      (case a => k_is)
      (case l => k_is)
      (case c => k_is)
      (case k => k_is)
    have h_common := by
      refine' K35.def1_mk KX K35.i_common ?a ?l ?c ?k
      (case a => k_is)
      (case l => k_is)
      (case c => k_is)
      (case k => k_is)
    have h_reduced := by
      refine' K35.def1_mk KX K35.i_reduced ?a ?l ?c ?k
      (case a => k_is)
      (case l => k_is)
      (case c => k_is)
      (case k => k_is)
    have h_is_fraction := by
      refine' K35.def1_mk KX K35.i_is_fraction ?a ?l ?c ?k
      (case a => k_is)
      (case l => k_is)
      (case c => k_is)
      (case k => k_is)
    have h_is_told_fraction := by
      refine' K35.def1_mk KX K35.i_is_told_fraction ?a ?l ?c ?k
      (case a => k_is)
      (case l => k_is)
      (case c => k_is)
      (case k => k_is)
    have h_added := by
      refine' K35.def1_mk KX K35.i_added ?a ?l ?c ?k
      (case a => k_is)
      (case l => k_is)
      (case c => k_is)
      (case k => k_is)
    have h_difference := by
      refine' K35.def1_mk KX K35.i_difference ?a ?l ?c ?k
      (case a => k_is)
      (case l => k_is)
      (case c => k_is)
      (case k => k_is)
    have h_product_of := by
      refine' K35.def1_mk KX K35.i_product_of ?a ?l ?c ?k
      (case a => k_is)
      (case l => k_is)
      (case c => k_is)
      (case k => k_is)
    have h_quotient := by
      refine' K35.def1_mk KX K35.i_quotient ?a ?l ?c ?k
      (case a => k_is)
      (case l => k_is)
      (case c => k_is)
      (case k => k_is)
    have h_integer_text := by
      refine' K35.def1_mk KX K35.i_integer_text ?a ?l ?c ?k
      (case a => k_is)
      (case l => k_is)
      (case c => k_is)
      (case k => k_is)
    have h_fraction_text := by
      refine' K35.def1_mk KX K35.i_fraction_text ?a ?l ?c ?k
      (case a => k_is)
      (case l => k_is)
      (case c => k_is)
      (case k => k_is)
    have h_is_poly := by
      refine' K35.def1_mk KX K35.i_is_poly ?a ?l ?c ?k
      (case a => k_is)
      (case l => k_is)
      (case c => k_is)
      (case k => k_is)
    have h_check_poly := by
      refine' K35.def1_mk KX K35.i_check_poly ?a ?l ?c ?k
      (case a => k_is)
      (case l => k_is)
      (case c => k_is)
      (case k => k_is)
    have h_check_two_polys := by
      refine' K35.def1_mk KX K35.i_check_two_polys ?a ?l ?c ?k
      (case a => k_is)
      (case l => k_is)
      (case c => k_is)
      (case k => k_is)
    have h_trimmed := by
      refine' K35.def1_mk KX K35.i_trimmed ?a ?l ?c ?k
      (case a => k_is)
      (case l => k_is)
      (case c => k_is)
      (case k => k_is)
    have h_degree_of := by
      refine' K35.def1_mk KX K35.i_degree_of ?a ?l ?c ?k
      (case a => k_is)
      (case l => k_is)
      (case c => k_is)
      (case k => k_is)
    have h_number_at := by
      refine' K35.def1_mk KX K35.i_number_at ?a ?l ?c ?k
      (case a => k_is)
      (case l => k_is)
      (case c => k_is)
      (case k => k_is)
    have h_poly_plus := by
      refine' K35.def1_mk KX K35.i_poly_plus ?a ?l ?c ?k
      (case a => k_is)
      (case l => k_is)
      (case c => k_is)
      (case k => k_is)
    have h_poly_less := by
      refine' K35.def1_mk KX K35.i_poly_less ?a ?l ?c ?k
      (case a => k_is)
      (case l => k_is)
      (case c => k_is)
      (case k => k_is)
    have h_poly_by_number := by
      refine' K35.def1_mk KX K35.i_poly_by_number ?a ?l ?c ?k
      (case a => k_is)
      (case l => k_is)
      (case c => k_is)
      (case k => k_is)
    have h_poly_times := by
      refine' K35.def1_mk KX K35.i_poly_times ?a ?l ?c ?k
      (case a => k_is)
      (case l => k_is)
      (case c => k_is)
      (case k => k_is)
    have h_poly_power := by
      refine' K35.def1_mk KX K35.i_poly_power ?a ?l ?c ?k
      (case a => k_is)
      (case l => k_is)
      (case c => k_is)
      (case k => k_is)
    have h_slope_of := by
      refine' K35.def1_mk KX K35.i_slope_of ?a ?l ?c ?k
      (case a => k_is)
      (case l => k_is)
      (case c => k_is)
      (case k => k_is)
    have h_value_at := by
      refine' K35.def1_mk KX K35.i_value_at ?a ?l ?c ?k
      (case a => k_is)
      (case l => k_is)
      (case c => k_is)
      (case k => k_is)
    have h_divided := by
      refine' K35.def1_mk KX K35.i_divided ?a ?l ?c ?k
      (case a => k_is)
      (case l => k_is)
      (case c => k_is)
      (case k => k_is)
    have h_led_common := by
      refine' K35.def1_mk KX K35.i_led_common ?a ?l ?c ?k
      (case a => k_is)
      (case l => k_is)
      (case c => k_is)
      (case k => k_is)
    have h_poly_sum := by
      refine' K35.def1_mk KX K35.i_poly_sum ?a ?l ?c ?k
      (case a => k_is)
      (case l => k_is)
      (case c => k_is)
      (case k => k_is)
    have h_poly_product := by
      refine' K35.def1_mk KX K35.i_poly_product ?a ?l ?c ?k
      (case a => k_is)
      (case l => k_is)
      (case c => k_is)
      (case k => k_is)
    have h_poly_divided := by
      refine' K35.def1_mk KX K35.i_poly_divided ?a ?l ?c ?k
      (case a => k_is)
      (case l => k_is)
      (case c => k_is)
      (case k => k_is)
    have h_poly_common := by
      refine' K35.def1_mk KX K35.i_poly_common ?a ?l ?c ?k
      (case a => k_is)
      (case l => k_is)
      (case c => k_is)
      (case k => k_is)
    have h_poly_value := by
      refine' K35.def1_mk KX K35.i_poly_value ?a ?l ?c ?k
      (case a => k_is)
      (case l => k_is)
      (case c => k_is)
      (case k => k_is)
    have h_poly_slope := by
      refine' K35.def1_mk KX K35.i_poly_slope ?a ?l ?c ?k
      (case a => k_is)
      (case l => k_is)
      (case c => k_is)
      (case k => k_is)
    have h_poly_raised := by
      refine' K35.def1_mk KX K35.i_poly_raised ?a ?l ?c ?k
      (case a => k_is)
      (case l => k_is)
      (case c => k_is)
      (case k => k_is)
    have h_power_text := by
      refine' K35.def1_mk KX K35.i_power_text ?a ?l ?c ?k
      (case a => k_is)
      (case l => k_is)
      (case c => k_is)
      (case k => k_is)
    have h_poly_text := by
      refine' K35.def1_mk KX K35.i_poly_text ?a ?l ?c ?k
      (case a => k_is)
      (case l => k_is)
      (case c => k_is)
      (case k => k_is)
    have h_text_of_poly := by
      refine' K35.def1_mk KX K35.i_text_of_poly ?a ?l ?c ?k
      (case a => k_is)
      (case l => k_is)
      (case c => k_is)
      (case k => k_is)
    have h_law_pot := by
      refine' K35.def1_mk KX K35.i_law_pot ?a ?l ?c ?k
      (case a => k_is)
      (case l => k_is)
      (case c => k_is)
      (case k => k_is)
    have h_law_cells := by
      refine' K35.def1_mk KX K35.i_law_cells ?a ?l ?c ?k
      (case a => k_is)
      (case l => k_is)
      (case c => k_is)
      (case k => k_is)
    have h_law_heard := by
      refine' K35.def1_mk KX K35.i_law_heard ?a ?l ?c ?k
      (case a => k_is)
      (case l => k_is)
      (case c => k_is)
      (case k => k_is)
    have h_law_take := by
      refine' K35.def1_mk KX K35.i_law_take ?a ?l ?c ?k
      (case a => k_is)
      (case l => k_is)
      (case c => k_is)
      (case k => k_is)
    have h_law_of := by
      refine' K35.def1_mk KX K35.i_law_of ?a ?l ?c ?k
      (case a => k_is)
      (case l => k_is)
      (case c => k_is)
      (case k => k_is)
    have h_law := by
      refine' K35.def1_mk KX K35.i_law ?a ?l ?c ?k
      (case a => k_is)
      (case l => k_is)
      (case c => k_is)
      (case k => k_is)
    refine' K35.all_k KX Gs h_is_integer h_is_between h_common h_reduced h_is_fraction h_is_told_fraction h_added h_difference h_product_of h_quotient h_integer_text h_fraction_text h_is_poly h_check_poly h_check_two_polys h_trimmed h_degree_of h_number_at h_poly_plus h_poly_less h_poly_by_number h_poly_times h_poly_power h_slope_of h_value_at h_divided h_led_common h_poly_sum h_poly_product h_poly_divided h_poly_common h_poly_value h_poly_slope h_poly_raised h_power_text h_poly_text h_text_of_poly h_law_pot h_law_cells h_law_heard h_law_take h_law_of h_law ?aR ?lR ?cR_ ?kR ?mR ?vR_ ?hR ?nR ?g_BEYOND ?e_BEYOND ?g_MOST_DEGREE ?e_MOST_DEGREE ?g_MOST_POWER ?e_MOST_POWER ?g_NOTHING ?l_NOTHING_ ?c_NOTHING_ ?d_NOTHING_ ?e_NOTHING_ ?g_ONE ?l_ONE_ ?c_ONE_ ?d_ONE_ ?e_ONE_ ?m_gcd ?bl_ ?y0 ?y1 ?y2 ?y3 ?x0 ?sa0 ?ga0 ?gg0 ?no0 ?ii0 ?kk0 ?eb0 ?ev0 ?ty0 ?hd0 ?sd0 ?oc0 ?mo0 ?x1 ?sa1 ?ga1 ?gg1 ?no1 ?ii1 ?kk1 ?eb1 ?ev1 ?ty1 ?hd1 ?sd1 ?oc1 ?mo1 ?x2 ?sa2 ?ga2 ?gg2 ?no2 ?ii2 ?kk2 ?eb2 ?ev2 ?ty2 ?hd2 ?sd2 ?oc2 ?mo2 ?x3 ?sa3 ?ga3 ?gg3 ?no3 ?ii3 ?kk3 ?eb3 ?ev3 ?ty3 ?hd3 ?sd3 ?oc3 ?mo3 ?tI ?z0_0 ?z0_1 ?z0_2 ?z0_3 ?z1_0 ?z1_1 ?z1_2 ?z1_3 ?z2_0 ?z2_1 ?z2_2 ?z2_3 ?z3_0 ?z3_1 ?z3_2 ?z3_3 ?w1_0 ?w1_2 ?w1_3 ?w2_0 ?w2_1 ?w2_3 ?w3_0 ?w3_1 ?w3_2 ?hn ?ht ?lI ?cI_ ?mI ?vI_ ?fI_ ?cellI ?su_ ?an_ ?topI ?rec_
    (case aR => k_is)
    (case lR => k_is)
    (case cR_ => k_is)
    (case kR => k_is)
    (case mR => k_is)
    (case vR_ => rfl)
    (case hR => first | rfl | kernel_rfl | decide +kernel)
    (case nR => first | rfl | kernel_rfl | decide +kernel)
    (case g_BEYOND => k_is)
    (case e_BEYOND => decide +kernel)
    (case g_MOST_DEGREE => k_is)
    (case e_MOST_DEGREE => first | rfl | decide +kernel)
    (case g_MOST_POWER => k_is)
    (case e_MOST_POWER => first | rfl | decide +kernel)
    (case g_NOTHING => k_is)
    (case l_NOTHING_ => k_is)
    (case c_NOTHING_ => rfl)
    (case d_NOTHING_ => rfl)
    (case e_NOTHING_ => rfl)
    (case g_ONE => k_is)
    (case l_ONE_ => k_is)
    (case c_ONE_ => rfl)
    (case d_ONE_ => rfl)
    (case e_ONE_ => rfl)
    (case m_gcd => k_is)
    case bl_ =>
      intro x hx
      simp only [K35.bl, List.mem_cons, List.not_mem_nil, or_false] at hx
      rcases hx with rfl | rfl | rfl | rfl | rfl | rfl | rfl | rfl | rfl | rfl | rfl | rfl | rfl | rfl | rfl | rfl | rfl <;> k_is
    (case y0 => k_is)
    (case y1 => k_is)
    (case y2 => k_is)
    (case y3 => k_is)
    (case x0 => k_is)
    (case sa0 => k_is)
    (case ga0 => k_is)
    (case gg0 => k_is)
    (case no0 => k_is)
    (case ii0 => k_is)
    (case kk0 => k_is)
    (case eb0 => k_is)
    (case ev0 => k_is)
    (case ty0 => k_is)
    (case hd0 => k_is)
    (case sd0 => k_is)
    (case oc0 => k_is)
    (case mo0 => k_is)
    (case x1 => k_is)
    (case sa1 => k_is)
    (case ga1 => k_is)
    (case gg1 => k_is)
    (case no1 => k_is)
    (case ii1 => k_is)
    (case kk1 => k_is)
    (case eb1 => k_is)
    (case ev1 => k_is)
    (case ty1 => k_is)
    (case hd1 => k_is)
    (case sd1 => k_is)
    (case oc1 => k_is)
    (case mo1 => k_is)
    (case x2 => k_is)
    (case sa2 => k_is)
    (case ga2 => k_is)
    (case gg2 => k_is)
    (case no2 => k_is)
    (case ii2 => k_is)
    (case kk2 => k_is)
    (case eb2 => k_is)
    (case ev2 => k_is)
    (case ty2 => k_is)
    (case hd2 => k_is)
    (case sd2 => k_is)
    (case oc2 => k_is)
    (case mo2 => k_is)
    (case x3 => k_is)
    (case sa3 => k_is)
    (case ga3 => k_is)
    (case gg3 => k_is)
    (case no3 => k_is)
    (case ii3 => k_is)
    (case kk3 => k_is)
    (case eb3 => k_is)
    (case ev3 => k_is)
    (case ty3 => k_is)
    (case hd3 => k_is)
    (case sd3 => k_is)
    (case oc3 => k_is)
    (case mo3 => k_is)
    (case tI => k_is)
    (case z0_0 => first | rfl | k_is)
    (case z0_1 => first | rfl | k_is)
    (case z0_2 => first | rfl | k_is)
    (case z0_3 => first | rfl | k_is)
    (case z1_0 => first | rfl | k_is)
    (case z1_1 => first | rfl | k_is)
    (case z1_2 => first | rfl | k_is)
    (case z1_3 => first | rfl | k_is)
    (case z2_0 => first | rfl | k_is)
    (case z2_1 => first | rfl | k_is)
    (case z2_2 => first | rfl | k_is)
    (case z2_3 => first | rfl | k_is)
    (case z3_0 => first | rfl | k_is)
    (case z3_1 => first | rfl | k_is)
    (case z3_2 => first | rfl | k_is)
    (case z3_3 => first | rfl | k_is)
    (case w1_0 => first | decide | (intro z; cases z) | k_is)
    (case w1_2 => first | decide | (intro z; cases z) | k_is)
    (case w1_3 => first | decide | (intro z; cases z) | k_is)
    (case w2_0 => first | decide | (intro z; cases z) | k_is)
    (case w2_1 => first | decide | (intro z; cases z) | k_is)
    (case w2_3 => first | decide | (intro z; cases z) | k_is)
    (case w3_0 => first | decide | (intro z; cases z) | k_is)
    (case w3_1 => first | decide | (intro z; cases z) | k_is)
    (case w3_2 => first | decide | (intro z; cases z) | k_is)
    (case hn => first | rfl | k_is)
    (case ht => first | rfl | k_is)
    (case lI => k_is)
    (case cI_ => k_is)
    (case mI => k_is)
    (case vI_ => rfl)
    (case fI_ => first | rfl | decide +kernel)
    (case cellI => k_is)
    (case su_ => k_is)
    (case an_ => k_is)
    (case topI => first | rfl | decide +kernel)
    case rec_ =>
      exact Pv.rec_of _ (by decide +kernel)
