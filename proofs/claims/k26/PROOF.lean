import PyProof.Rows.All
import Wide.All
import OpenK.AllK
import Wide.FinOn
import HandS.ForMost
import HandS.Exc
import HandS.TryOnly
import HandS.ExcOwn
import HandS.IsInst
import HandS.Gcd
import HandS.Wide
import HandS.Conv
import HandS.Flow
import HandS.Style
import HandS.Words
import HandS.EndBits
import PySem.Challenge.RW_whennumbersstop_k26_whole_sums_and_signs
set_option Elab.async false
set_option maxRecDepth 100000
/-! Pv1: a small language for what the program's defs do, over data and a store of lists; its meaning as a function. -/
namespace Pv
open PySem L2

/-- a value: data, or a list of the store -/
inductive A where
  | d (x : PyData)
  | ref (i : Nat)
/-- a store object -/
inductive O where
  | lst (ds : List PyData)
abbrev Sto := List O
abbrev En := List (Option A)

inductive R (α : Type) where
  | ok (a : α) (S : Sto)
  | ex (c : Nat) (p : PyData) (S : Sto)
  | no
def R.bind {α β : Type} : R α → (α → Sto → R β) → R β
  | .ok a S, f => f a S
  | .ex c p S, _ => .ex c p S
  | .no, _ => .no
@[simp] theorem R.bind_ok {α β : Type} {a : α} {S : Sto} {f : α → Sto → R β} : R.bind (.ok a S) f = f a S := rfl
@[simp] theorem R.bind_ex {α β : Type} {c : Nat} {p : PyData} {S : Sto} {f : α → Sto → R β} : R.bind (.ex c p S) f = .ex c p S := rfl
@[simp] theorem R.bind_no {α β : Type} {f : α → Sto → R β} : R.bind (.no : R α) f = .no := rfl
/-- an optional value at the store -/
def R.opt {α : Type} (S : Sto) : Option α → R α
  | some a => .ok a S
  | none => .no
@[simp] theorem R.opt_some {α : Type} {S : Sto} {a : α} : R.opt S (some a) = .ok a S := rfl
@[simp] theorem R.opt_none {α : Type} {S : Sto} : R.opt S (none : Option α) = .no := rfl

inductive BOp where
  | add | sub | mul | fdiv | mod | pow
inductive COp where
  | eq | ne | lt | le | gt | ge | isN | notN
inductive Bi where
  | len | abs | int | max | min | sum | all | any | isInt | isBool | isTup | repr | gcd | isqrt | tuple | list | listRange
inductive Tg where
  | n (i : Nat)
  | t (is : List Nat)
mutual
inductive Ex where
  | k (x : PyData)
  | v (i : Nat)
  | bin (o : BOp) (a b : Ex)
  | neg (a : Ex)
  | not (a : Ex)
  | cmp (o : COp) (a b : Ex)
  | chain (o o' : COp) (a b c : Ex)
  | and (a b : Ex)
  | or (a b : Ex)
  | ite (c a b : Ex)
  | tup (xs : Exs)
  | lst (xs : Exs)
  | lstM (xs : Exs)
  | call (f : Nat) (xs : Exs)
  | bi (f : Bi) (xs : Exs)
  | ix (a b : Ex)
  | dix (ks : List Int) (vs : Exs) (i : Ex)
  | slice (a : Ex) (lo hi : Exs)
  | lc (t : Tg) (own : List Nat) (it e : Ex) (cs : Exs)
  | lcR (i : Nat) (own : List Nat) (n e : Ex) (cs : Exs)
inductive Exs where
  | nil
  | cons (a : Ex) (r : Exs)
end
mutual
inductive Sm where
  | set (i : Nat) (e : Ex)
  | par (i j : Nat) (a b : Ex)
  | par3 (i j l : Nat) (a b c : Ex)
  | unp (is : List Nat) (e : Ex)
  | six (a i e : Ex)
  | ret (e : Ex)
  | retN
  | ife (c : Ex) (a b : Ss)
  | whl (c : Ex) (b : Ss)
  | for_ (t : Tg) (it : Ex) (b : Ss)
  | forR (i : Nat) (n : Ex) (b : Ss)
  | expr (e : Ex)
  | app (a e : Ex)
  | pass
  | brk
  | cont
  | raise (c : Nat) (e : Ex)
inductive Ss where
  | nil
  | cons (a : Sm) (r : Ss)
end

/-! ### what the parts do with data -/
def mulOk (a b : Int) : Bool := decide (a.natAbs.log2 + b.natAbs.log2 < 1000000)
def divOk (b : Int) : Bool := decide (b ≠ 0) && decide (b.natAbs.log2 < 9000)
def powOk (a b : Int) : Bool := decide (0 ≤ b) && decide ((Builtin.Int.intBits a : Int) * b ≤ 2 ^ 27)
def bI (b : Bool) : Int := if b then 1 else 0
def binD : BOp → PyData → PyData → Option PyData
  | .add, .int a, .int b => some (.int (a + b))
  | .add, .int a, .bool b => some (.int (a + bI b))
  | .sub, .int a, .int b => some (.int (a - b))
  | .sub, .int a, .bool b => some (.int (a - bI b))
  | .sub, .bool a, .bool b => some (.int (bI a - bI b))
  | .mul, .int a, .int b => if mulOk a b then some (.int (a * b)) else none
  | .fdiv, .int a, .int b => if divOk b then some (.int (a.fdiv b)) else none
  | .mod, .int a, .int b => if b ≠ 0 then some (.int (a.fmod b)) else none
  | .pow, .int a, .int b => if powOk a b then some (.int (a ^ b.toNat)) else none
  | _, _, _ => none
def flatD (d : PyData) : Bool := SeqAt.shaped d
def isNone : PyData → Bool
  | .none => true
  | _ => false
def cmpD : COp → PyData → PyData → Option Bool
  | .eq, .str a, .str b => some (decide (a = b))
  | .ne, .str a, .str b => some (!decide (a = b))
  | .eq, a, b => if flatD a && flatD b then some (PyData.eqv a b) else none
  | .ne, a, b => if flatD a && flatD b then some (!PyData.eqv a b) else none
  | .lt, .int a, .int b => some (decide (a < b))
  | .le, .int a, .int b => some (decide (a ≤ b))
  | .gt, .int a, .int b => some (decide (b < a))
  | .ge, .int a, .int b => some (decide (b ≤ a))
  | .isN, a, .none => some (isNone a)
  | .notN, a, .none => some (!isNone a)
  | _, _, _ => none
def truthD : PyData → Option Bool
  | .none => some false
  | .bool b => some b
  | .int i => some (i != 0)
  | .str s => if s.length ≤ sizeLine then some ((s.length : Int) != 0) else none
  | .list xs => some (!xs.isEmpty)
  | .tuple xs => some (!xs.isEmpty)
  | .dict _ => none
def asInts : List PyData → Option (List Int)
  | [] => some []
  | .int i :: r => (asInts r).map (i :: ·)
  | _ :: _ => none
def asBools : List PyData → Option (List Bool)
  | [] => some []
  | .bool b :: r => (asBools r).map (b :: ·)
  | _ :: _ => none
def reprOk (d : PyData) : Bool := decide (d.depth ≤ 64) && d.showable && decide (d.shown.length ≤ sizeLine)
def rngD (n : Nat) : List PyData := (List.range n).map fun i : Nat => PyData.int (i : Int)
def biD : Bi → List PyData → Option PyData
  | .len, [.list xs] => some (.int xs.length)
  | .len, [.tuple xs] => some (.int xs.length)
  | .len, [.str s] => if s.length ≤ sizeLine then some (.int s.length) else none
  | .abs, [.int a] => some (.int (if a < 0 then -a else a))
  | .int, [.int a] => some (.int a)
  | .int, [.bool b] => some (.int (bI b))
  | .max, [.int a, .int b] => some (.int (if b > a then b else a))
  | .min, [.int a, .int b] => some (.int (if b < a then b else a))
  | .sum, [.list xs] => (asInts xs).map fun ns => .int ns.sum
  | .all, [.list xs] => (asBools xs).map fun bs => .bool (bs.all id)
  | .any, [.list xs] => (asBools xs).map fun bs => .bool (bs.any id)
  | .isInt, [.int _] => some (.bool true)
  | .isInt, [.bool _] => some (.bool true)
  | .isInt, [_] => some (.bool false)
  | .isBool, [.bool _] => some (.bool true)
  | .isBool, [_] => some (.bool false)
  | .isTup, [.tuple _] => some (.bool true)
  | .isTup, [_] => some (.bool false)
  | .repr, [d] => if reprOk d then some (.str d.shown) else none
  | .gcd, [.int a, .int b] => some (.int ((Nat.gcd a.natAbs b.natAbs : Nat) : Int))
  | .isqrt, [.int a] => if 0 ≤ a ∧ a.natAbs.log2 < 13000 then some (.int ((Float64.isqrt a.toNat : Nat) : Int)) else none
  | .tuple, [.list xs] => some (.tuple xs)
  | .tuple, [.tuple xs] => some (.tuple xs)
  | .list, [.list xs] => some (.list xs)
  | .list, [.tuple xs] => some (.list xs)
  | .listRange, [.int n] => if n.natAbs ≤ 10000000 then some (.list (rngD n.toNat)) else none
  | _, _ => none
/-- Python's index of a sequence -/
def ixD : PyData → PyData → Option PyData
  | .list xs, .int i => atI xs i
  | .tuple xs, .int i => atI xs i
  | _, _ => none
def cutD (xs : List PyData) (lo hi : Option Int) : List PyData := (xs.drop (HT.sIx xs.length 0 lo)).take (HT.sIx xs.length xs.length hi - HT.sIx xs.length 0 lo)
def optI : List A → Option (Option Int)
  | [] => some none
  | [.d (.int i)] => some (some i)
  | _ => none
def sliceD : PyData → Option Int → Option Int → Option PyData
  | .list xs, lo, hi => some (.list (cutD xs lo hi))
  | _, _, _ => none
/-- the data that is read of a value -/
def rd (S : Sto) : A → Option PyData
  | .d x => some x
  | .ref i => match S[i]? with
    | some (.lst ds) => some (.list ds)
    | none => none
def rds (S : Sto) : List A → Option (List PyData)
  | [] => some []
  | a :: r => (rd S a).bind fun x => (rds S r).map (x :: ·)
def itemsOf : PyData → Option (List PyData)
  | .list xs => some xs
  | .tuple xs => some xs
  | _ => none
/-- the values of written items: data alone -/
def datas : List A → Option (List PyData)
  | [] => some []
  | .d x :: r => (datas r).map (x :: ·)
  | .ref _ :: _ => none
def setAll : List Nat → List PyData → En → Option En
  | [], [], σ => some σ
  | i :: is, x :: xs, σ => setAll is xs (σ.set i (some (.d x)))
  | _, _, _ => none
def setTg : Tg → PyData → En → Option En
  | .n i, x, σ => some (σ.set i (some (.d x)))
  | .t is, .tuple xs, σ => if is.length = xs.length then setAll is xs σ else none
  | _, _, _ => none
def wipeD (σ : En) : List Nat → En
  | [] => σ
  | v :: vs => (wipeD σ vs).set v none
def consO : Option PyData → List PyData → List PyData
  | some y, ys => y :: ys
  | none, ys => ys
/-- f: the element at an item, none where a test leaves it out -/
def lcGo (f : PyData → Sto → R (Option PyData)) : List PyData → Sto → R (List PyData)
  | [], S => .ok [] S
  | x :: xs, S => (f x S).bind fun y S1 => (lcGo f xs S1).bind fun ys S2 => .ok (consO y ys) S2
/-- no exception leaves a comprehension -/
def R.calm {α : Type} : R α → R α
  | .ok a S => .ok a S
  | _ => .no

def keepD (r : R A) : R (Option PyData) := r.bind fun z S => match z with
  | .d z => .ok (some z) S
  | .ref _ => .no
def lcOne (tests : R (List A)) (elt : Sto → R A) : R (Option PyData) := (tests.bind fun bs S => match bs with
  | [] => keepD (elt S)
  | [b] => (match (rd S b).bind truthD with
    | some true => keepD (elt S)
    | some false => .ok none S
    | none => .no)
  | _ => .no).calm

/-- the defs that are called, and how many turns a while may take -/
structure Cfg where
  call : Nat → List A → Sto → R A
  fuel : Nat

mutual
def ev (c : Cfg) : Ex → En → Sto → R A
  | .k x, _, S => .ok (.d x) S
  | .v i, σ, S => R.opt S (σ[i]?.join)
  | .bin o a b, σ, S => (ev c a σ S).bind fun x S1 => (ev c b σ S1).bind fun y S2 => match x, y with
    | .d x, .d y => R.opt S2 ((binD o x y).map .d)
    | _, _ => .no
  | .neg a, σ, S => (ev c a σ S).bind fun x S1 => match x with
    | .d (.int i) => .ok (.d (.int (-i))) S1
    | _ => .no
  | .not a, σ, S => (ev c a σ S).bind fun x S1 => R.opt S1 (((rd S1 x).bind truthD).map fun b => .d (.bool (!b)))
  | .cmp o a b, σ, S => (ev c a σ S).bind fun x S1 => (ev c b σ S1).bind fun y S2 => R.opt S2 ((rd S2 x).bind fun x => (rd S2 y).bind fun y => (cmpD o x y).map fun b => .d (.bool b))
  | .chain o o' a b d, σ, S => (ev c a σ S).bind fun x S1 => (ev c b σ S1).bind fun y S2 => match x, y with
    | .d x, .d y => (match cmpD o x y with
      | some true => (ev c d σ S2).bind fun z S3 => (match z with
        | .d z => R.opt S3 ((cmpD o' y z).map fun b => .d (.bool b))
        | _ => .no)
      | some false => .ok (.d (.bool false)) S2
      | none => .no)
    | _, _ => .no
  | .and a b, σ, S => (ev c a σ S).bind fun x S1 => match (rd S1 x).bind truthD with
    | some true => ev c b σ S1
    | some false => .ok x S1
    | none => .no
  | .or a b, σ, S => (ev c a σ S).bind fun x S1 => match (rd S1 x).bind truthD with
    | some true => .ok x S1
    | some false => ev c b σ S1
    | none => .no
  | .ite t a b, σ, S => (ev c t σ S).bind fun x S1 => match (rd S1 x).bind truthD with
    | some true => ev c a σ S1
    | some false => ev c b σ S1
    | none => .no
  | .tup xs, σ, S => (evs c xs σ S).bind fun as S1 => R.opt S1 ((datas as).map fun ds => .d (.tuple ds))
  | .lst xs, σ, S => (evs c xs σ S).bind fun as S1 => R.opt S1 ((datas as).map fun ds => .d (.list ds))
  | .lstM xs, σ, S => (evs c xs σ S).bind fun as S1 => match datas as with
    | some ds => .ok (.ref S1.length) (S1 ++ [.lst ds])
    | none => .no
  | .call f xs, σ, S => (evs c xs σ S).bind fun as S1 => c.call f as S1
  | .bi f xs, σ, S => (evs c xs σ S).bind fun as S1 => R.opt S1 ((rds S1 as).bind fun ds => (biD f ds).map .d)
  | .ix a b, σ, S => (ev c a σ S).bind fun x S1 => (ev c b σ S1).bind fun y S2 => R.opt S2 ((rd S2 x).bind fun x => (rd S2 y).bind fun y => (ixD x y).map .d)
  | .dix ks vs i, σ, S => (evs c vs σ S).bind fun as S1 => (ev c i σ S1).bind fun y S2 => match datas as, y with
    | some ds, .d (.int j) => R.opt S2 (((ks.zip ds).lookup j).map .d)
    | _, _ => .no
  | .slice a lo hi, σ, S => (ev c a σ S).bind fun x S1 => (evs c lo σ S1).bind fun l S2 => (evs c hi σ S2).bind fun h S3 =>
      R.opt S3 ((rd S3 x).bind fun x => (optI l).bind fun l => (optI h).bind fun h => (sliceD x l h).map .d)
  | .lc t own it e cs, σ, S => (ev c it σ S).bind fun x S1 => match x with
    | .d x => (match itemsOf x with
      | some xs => (lcGo (fun y S => match setTg t y (wipeD σ own) with
          | some σ' => lcOne (evs c cs σ' S) fun S1 => ev c e σ' S1
          | none => .no) xs S1).bind fun ys S2 => .ok (.d (.list ys)) S2
      | none => .no)
    | .ref _ => .no
  | .lcR i own n e cs, σ, S => (ev c n σ S).bind fun x S1 => match x with
    | .d (.int j) => if j.natAbs ≤ 10000000 then (lcGo (fun y S => lcOne (evs c cs ((wipeD σ own).set i (some (.d y))) S) fun S1 => ev c e ((wipeD σ own).set i (some (.d y))) S1) (rngD j.toNat) S1).bind fun ys S2 => .ok (.d (.list ys)) S2 else .no
    | _ => .no
def evs (c : Cfg) : Exs → En → Sto → R (List A)
  | .nil, _, S => .ok [] S
  | .cons a r, σ, S => (ev c a σ S).bind fun x S1 => (evs c r σ S1).bind fun xs S2 => .ok (x :: xs) S2
end

/-- how a statement ends -/
inductive Fl where
  | nx (σ : En)
  | rt (a : A)
  | bk (σ : En)
  | ct (σ : En)
def whlGo (t : En → Sto → R Bool) (b : En → Sto → R Fl) : Nat → En → Sto → R Fl
  | 0, _, _ => .no
  | n + 1, σ, S => (t σ S).bind fun k S1 => if k = true then (b σ S1).bind fun f S2 => match f with
      | .nx σ' => whlGo t b n σ' S2
      | .ct σ' => whlGo t b n σ' S2
      | .bk σ' => .ok (.nx σ') S2
      | .rt a => .ok (.rt a) S2
    else .ok (.nx σ) S1
/-- xs: what is left; at each turn the walked list must still read as it did -/
def forGo (ok : Sto → Bool) (b : PyData → En → Sto → R Fl) : List PyData → En → Sto → R Fl
  | [], σ, S => if ok S then .ok (.nx σ) S else .no
  | x :: xs, σ, S => if ok S then (b x σ S).bind fun f S2 => match f with
      | .nx σ' => forGo ok b xs σ' S2
      | .ct σ' => forGo ok b xs σ' S2
      | .bk σ' => .ok (.nx σ') S2
      | .rt a => .ok (.rt a) S2
    else .no
def isD : A → Bool
  | .d _ => true
  | .ref _ => false
mutual
def st (c : Cfg) : Sm → En → Sto → R Fl
  | .set i e, σ, S => (ev c e σ S).bind fun x S1 => .ok (.nx (σ.set i (some x))) S1
  | .par i j a b, σ, S => (ev c a σ S).bind fun x S1 => (ev c b σ S1).bind fun y S2 => .ok (.nx ((σ.set i (some x)).set j (some y))) S2
  | .par3 i j l a b e, σ, S => (ev c a σ S).bind fun x S1 => (ev c b σ S1).bind fun y S2 => (ev c e σ S2).bind fun z S3 => .ok (.nx (((σ.set i (some x)).set j (some y)).set l (some z))) S3
  | .unp is e, σ, S => (ev c e σ S).bind fun x S1 => match x with
    | .d x => R.opt S1 ((setTg (.t is) x σ).map .nx)
    | _ => .no
  | .six a i e, σ, S => (ev c e σ S).bind fun y S1 => (ev c a σ S1).bind fun x S2 => (ev c i σ S2).bind fun j S3 => match x, j, y with
    | .ref r, .d (.int j), .d y => (match S3[r]? with
      | some (.lst ds) => (match ixN ds.length j with
        | some n => .ok (.nx σ) (S3.set r (.lst (ds.set n y)))
        | none => .no)
      | none => .no)
    | _, _, _ => .no
  | .ret e, σ, S => (ev c e σ S).bind fun x S1 => .ok (.rt x) S1
  | .retN, _, S => .ok (.rt (.d .none)) S
  | .ife t a b, σ, S => (ev c t σ S).bind fun x S1 => match (rd S1 x).bind truthD with
    | some true => sts c a σ S1
    | some false => sts c b σ S1
    | none => .no
  | .whl t b, σ, S => whlGo (fun σ S => (ev c t σ S).bind fun x S1 => R.opt S1 ((rd S1 x).bind truthD)) (fun σ S => sts c b σ S) c.fuel σ S
  | .for_ t it b, σ, S => (ev c it σ S).bind fun x S1 => match x with
    | .d x => (match itemsOf x with
      | some xs => forGo (fun _ => true) (fun y σ S => match setTg t y σ with
        | some σ' => sts c b σ' S
        | none => .no) xs σ S1
      | none => .no)
    | _ => .no
  | .forR i n b, σ, S => (ev c n σ S).bind fun x S1 => match x with
    | .d (.int j) => if j.natAbs ≤ 10000000 then forGo (fun _ => true) (fun y σ S => sts c b (σ.set i (some (.d y))) S) (rngD j.toNat) σ S1 else .no
    | _ => .no
  | .expr e, σ, S => (ev c e σ S).bind fun _ S1 => .ok (.nx σ) S1
  | .app a e, σ, S => (ev c a σ S).bind fun x S1 => (ev c e σ S1).bind fun y S2 => match x, y with
    | .ref r, .d y => (match S2[r]? with
      | some (.lst ds) => if ds.length < sizeLine then .ok (.nx σ) (S2.set r (.lst (ds ++ [y]))) else .no
      | none => .no)
    | _, _ => .no
  | .pass, σ, S => .ok (.nx σ) S
  | .brk, σ, S => .ok (.bk σ) S
  | .cont, σ, S => .ok (.ct σ) S
  | .raise _ _, _, _ => .no
def sts (c : Cfg) : Ss → En → Sto → R Fl
  | .nil, σ, S => .ok (.nx σ) S
  | .cons a r, σ, S => (st c a σ S).bind fun f S1 => match f with
    | .nx σ' => sts c r σ' S1
    | f => .ok f S1
end

/-- a def: how many names, its body, whether what it hands back is kept as a list of the store -/
structure Fn where
  np : Nat
  nn : Nat
  body : Ss
  keep : Bool := false
/-- what a def hands back leaves its own lists behind -/
def frz (S : Sto) (n : Nat) : A → Option A
  | .d x => some (.d x)
  | .ref i => if i < n then some (.ref i) else match S[i]? with
    | some (.lst ds) => some (.d (.list ds))
    | none => none
def fin (keep : Bool) (n : Nat) (a : A) (S : Sto) : R A :=
  if keep then .ok a S else match frz S n a with
    | some a' => .ok a' (S.take n)
    | none => .no
def outOf (keep : Bool) (n : Nat) : R Fl → R A
  | .ok (.rt a) S => fin keep n a S
  | .ok (.nx _) S => fin keep n (.d .none) S
  | .ok _ _ => .no
  | .ex k p S => .ex k p (S.take n)
  | .no => .no
def start (nn : Nat) (as : List A) : En := as.map some ++ List.replicate (nn - as.length) none
def callF (T : Nat → Option Fn) (fuel : Nat) : Nat → Nat → List A → Sto → R A
  | 0, _, _, _ => .no
  | d + 1, k, as, S => match T k with
    | some f => if as.length = f.np then outOf f.keep S.length (sts ⟨callF T fuel d, fuel⟩ f.body (start f.nn as) S) else .no
    | none => .no
end Pv
set_option Elab.async false
set_option maxRecDepth 100000
/-! Pv2: how data lies in the heap. -/
namespace Pv
open PySem L2

/-- a tuple, a list of the written part -/
def KTup (K : PySem.W.Frag) (a : Addr) (xs : List V) : Prop :=
  ∃ (o : Obj) (its : Array Value) (n : Nat), K.lookup a = some o ∧ o.cls = .type "tuple" ∧ o.data = .seq its n ∧ its.size ≤ sizeLine ∧ Vals xs its.toList
def KLst (K : PySem.W.Frag) (a : Addr) (xs : List V) : Prop :=
  ∃ (o : Obj) (its : Array Value) (n : Nat), K.lookup a = some o ∧ o.cls = .type "list" ∧ o.dict = none ∧ o.data = .seq its n ∧ its.size ≤ sizeLine ∧ Vals xs its.toList
mutual
/-- v is the data x, none of whose objects stands in av -/
inductive Rep (K : PySem.W.Frag) (H : Hp) (av : List Addr) : PyData → V → Prop
  | non : Rep K H av .none .non
  | bool (b : Bool) : Rep K H av (.bool b) (.bl b)
  | int (i : Int) : Rep K H av (.int i) (.int i)
  | str (s : Str) : Rep K H av (.str s) (.str s)
  | tupH {a : Addr} {vs : List V} {ds : List PyData} (h : Rd H a (.tup vs)) (n : a ∉ av) (r : RepAll K H av ds vs) : Rep K H av (.tuple ds) (.ref a)
  | tupK {a : Addr} {vs : List V} {ds : List PyData} (h : KTup K a vs) (r : RepAll K H av ds vs) : Rep K H av (.tuple ds) (.ref a)
  | lstH {a : Addr} {vs : List V} {ds : List PyData} (h : Rd H a (.lst vs)) (n : a ∉ av) (r : RepAll K H av ds vs) : Rep K H av (.list ds) (.ref a)
  | lstK {a : Addr} {vs : List V} {ds : List PyData} (h : KLst K a vs) (r : RepAll K H av ds vs) : Rep K H av (.list ds) (.ref a)
inductive RepAll (K : PySem.W.Frag) (H : Hp) (av : List Addr) : List PyData → List V → Prop
  | nil : RepAll K H av [] []
  | cons {d : PyData} {ds : List PyData} {v : V} {vs : List V} (h : Rep K H av d v) (r : RepAll K H av ds vs) : RepAll K H av (d :: ds) (v :: vs)
end
section
variable {K : PySem.W.Frag} {H H' : Hp} {av av' m ms : List Addr}
/-- from H to H': all but m's objects stay, ms are new -/
structure Evo (m : List Addr) (H : Hp) (ms : List Addr) (H' : Hp) : Prop where
  keep : ∀ a o, H a = some o → a ∉ m → H' a = some o
  new : ∀ p ∈ ms, H p = none
theorem Evo.refl : Evo m H [] H := ⟨fun _ _ h _ => h, fun _ h => nomatch h⟩
theorem Rd.evo {a : Addr} {u : HO} (r : Rd H a u) (e : Evo m H ms H') (n : a ∉ m) : Rd H' a u ∧ a ∉ ms := by
  rcases r with r | ⟨o, r⟩
  · exact ⟨.inl (e.keep _ _ r n), fun z => by rw [e.new a z] at r; cases r⟩
  · exact ⟨.inr ⟨o, e.keep _ _ r n⟩, fun z => by rw [e.new a z] at r; cases r⟩
mutual
theorem Rep.evo (e : Evo m H ms H') (sub : ∀ a ∈ m, a ∈ av) : ∀ {d : PyData} {v : V}, Rep K H av d v → Rep K H' (av ++ ms) d v
  | _, _, .non => .non
  | _, _, .bool b => .bool b
  | _, _, .int i => .int i
  | _, _, .str s => .str s
  | _, _, .tupH h n r => by
    obtain ⟨h1, h2⟩ := Rd.evo h e fun z => n (sub _ z)
    exact .tupH h1 (by rw [List.mem_append]; exact fun z => z.elim n h2) (RepAll.evo e sub r)
  | _, _, .tupK h r => .tupK h (RepAll.evo e sub r)
  | _, _, .lstH h n r => by
    obtain ⟨h1, h2⟩ := Rd.evo h e fun z => n (sub _ z)
    exact .lstH h1 (by rw [List.mem_append]; exact fun z => z.elim n h2) (RepAll.evo e sub r)
  | _, _, .lstK h r => .lstK h (RepAll.evo e sub r)
theorem RepAll.evo (e : Evo m H ms H') (sub : ∀ a ∈ m, a ∈ av) : ∀ {ds : List PyData} {vs : List V}, RepAll K H av ds vs → RepAll K H' (av ++ ms) ds vs
  | _, _, .nil => .nil
  | _, _, .cons h r => .cons (Rep.evo e sub h) (RepAll.evo e sub r)
end
mutual
theorem Rep.less (s : ∀ a ∈ av', a ∈ av) : ∀ {d : PyData} {v : V}, Rep K H av d v → Rep K H av' d v
  | _, _, .non => .non
  | _, _, .bool b => .bool b
  | _, _, .int i => .int i
  | _, _, .str s => .str s
  | _, _, .tupH h n r => .tupH h (fun z => n (s _ z)) (RepAll.less s r)
  | _, _, .tupK h r => .tupK h (RepAll.less s r)
  | _, _, .lstH h n r => .lstH h (fun z => n (s _ z)) (RepAll.less s r)
  | _, _, .lstK h r => .lstK h (RepAll.less s r)
theorem RepAll.less (s : ∀ a ∈ av', a ∈ av) : ∀ {ds : List PyData} {vs : List V}, RepAll K H av ds vs → RepAll K H av' ds vs
  | _, _, .nil => .nil
  | _, _, .cons h r => .cons (Rep.less s h) (RepAll.less s r)
end
mutual
theorem Rep.dp : ∀ {d : PyData} {v : V}, Rep K H av d v → Dp K H v d
  | _, _, .non => .non
  | _, _, .bool b => .bl b
  | _, _, .int i => .int i
  | _, _, .str s => .str s
  | _, _, .tupH h _ r => .tup (.inl h) (RepAll.dp r)
  | _, _, .tupK h r => .tup (.inr h) (RepAll.dp r)
  | _, _, .lstH h _ r => .lst (.inl h) (RepAll.dp r)
  | _, _, .lstK h r => .lst (.inr h) (RepAll.dp r)
theorem RepAll.dp : ∀ {ds : List PyData} {vs : List V}, RepAll K H av ds vs → DpAll K H vs ds
  | _, _, .nil => .nil
  | _, _, .cons h r => .cons (Rep.dp h) (RepAll.dp r)
end
theorem RepAll.length : ∀ {ds : List PyData} {vs : List V}, RepAll K H av ds vs → ds.length = vs.length
  | _, _, .nil => rfl
  | _, _, .cons _ r => by simp [RepAll.length r]
theorem RepAll.get : ∀ {ds : List PyData} {vs : List V} {i : Nat} {d : PyData}, RepAll K H av ds vs → ds[i]? = some d → ∃ v, vs[i]? = some v ∧ Rep K H av d v
  | _, _, i, _, .nil, e => by simp at e
  | _, _, 0, _, .cons h _, e => by simp at e; subst e; exact ⟨_, rfl, h⟩
  | _, _, i + 1, _, .cons _ r, e => by
    obtain ⟨v, h1, h2⟩ := RepAll.get (i := i) r (by simpa using e)
    exact ⟨v, by simpa using h1, h2⟩
theorem RepAll.get' : ∀ {ds : List PyData} {vs : List V} {i : Nat} {v : V}, RepAll K H av ds vs → vs[i]? = some v → ∃ d, ds[i]? = some d ∧ Rep K H av d v
  | _, _, i, _, .nil, e => by simp at e
  | _, _, 0, _, .cons h _, e => by simp at e; subst e; exact ⟨_, rfl, h⟩
  | _, _, i + 1, _, .cons _ r, e => by
    obtain ⟨v, h1, h2⟩ := RepAll.get' (i := i) r (by simpa using e)
    exact ⟨v, by simpa using h1, h2⟩
theorem RepAll.append : ∀ {ds es : List PyData} {vs ws : List V}, RepAll K H av ds vs → RepAll K H av es ws → RepAll K H av (ds ++ es) (vs ++ ws)
  | _, _, _, _, .nil, s => s
  | _, _, _, _, .cons h r, s => .cons h (RepAll.append r s)
theorem RepAll.set {d : PyData} {v : V} (x : Rep K H av d v) : ∀ {ds : List PyData} {vs : List V} (i : Nat), RepAll K H av ds vs → RepAll K H av (ds.set i d) (vs.set i v)
  | _, _, _, .nil => .nil
  | _, _, 0, .cons _ r => .cons x r
  | _, _, i + 1, .cons h r => .cons h (RepAll.set x i r)
theorem RepAll.take : ∀ {ds : List PyData} {vs : List V} (n : Nat), RepAll K H av ds vs → RepAll K H av (ds.take n) (vs.take n)
  | _, _, 0, _ => .nil
  | _, _, _ + 1, .nil => .nil
  | _, _, n + 1, .cons h r => .cons h (RepAll.take n r)
theorem RepAll.drop : ∀ {ds : List PyData} {vs : List V} (n : Nat), RepAll K H av ds vs → RepAll K H av (ds.drop n) (vs.drop n)
  | _, _, 0, r => r
  | _, _, _ + 1, .nil => .nil
  | _, _, n + 1, .cons _ r => RepAll.drop n r
theorem rep_rngD (n : Nat) : RepAll K H av (rngD n) ((List.range n).map fun i : Nat => V.int (i : Int)) := by
  have : ∀ l : List Nat, RepAll K H av (l.map fun i : Nat => PyData.int (i : Int)) (l.map fun i : Nat => V.int (i : Int)) := fun l => by
    induction l with
    | nil => exact .nil
    | cons a l ih => exact .cons (.int _) ih
  exact this _

/-- the object of the store at a -/
def ObjR (K : PySem.W.Frag) (H : Hp) (av : List Addr) (o : O) (a : Addr) : Prop := match o with
  | .lst ds => ∃ vs, H a = some (.lst vs) ∧ RepAll K H av ds vs
inductive StoR (K : PySem.W.Frag) (H : Hp) (av : List Addr) : Sto → List Addr → Prop
  | nil : StoR K H av [] []
  | cons {o : O} {S : Sto} {a : Addr} {m : List Addr} (h : ObjR K H av o a) (r : StoR K H av S m) : StoR K H av (o :: S) (a :: m)
/-- the store lies at m -/
structure Rel (K : PySem.W.Frag) (m av : List Addr) (H : Hp) (S : Sto) : Prop where
  sub : ∀ a ∈ m, a ∈ av
  live : ∀ a ∈ av, ∃ o, H a = some o
  nd : m.Nodup
  sto : StoR K H av S m
def RepA (K : PySem.W.Frag) (H : Hp) (m av : List Addr) : A → V → Prop
  | .d x, v => Rep K H av x v
  | .ref i, v => ∃ a, m[i]? = some a ∧ v = .ref a
theorem StoR.length : ∀ {S : Sto} {m : List Addr}, StoR K H av S m → S.length = m.length
  | _, _, .nil => rfl
  | _, _, .cons _ r => by simp [StoR.length r]
theorem StoR.get : ∀ {S : Sto} {m : List Addr} {i : Nat} {o : O}, StoR K H av S m → S[i]? = some o → ∃ a, m[i]? = some a ∧ ObjR K H av o a
  | _, _, i, _, .nil, e => by simp at e
  | _, _, 0, _, .cons h _, e => by simp at e; subst e; exact ⟨_, rfl, h⟩
  | _, _, i + 1, _, .cons _ r, e => by
    obtain ⟨v, h1, h2⟩ := StoR.get (i := i) r (by simpa using e)
    exact ⟨v, by simpa using h1, h2⟩
theorem StoR.imp {av' : List Addr} {H' : Hp} (f : ∀ o a, a ∈ m → ObjR K H av o a → ObjR K H' av' o a) : ∀ {S : Sto}, StoR K H av S m → StoR K H' av' S m := by
  intro S r
  induction r with
  | nil => exact .nil
  | cons h r ih => exact .cons (f _ _ List.mem_cons_self h) (ih fun o a z => f o a (List.mem_cons_of_mem _ z))
theorem StoR.append {S T : Sto} {m ms : List Addr} (r : StoR K H av S m) (s : StoR K H av T ms) : StoR K H av (S ++ T) (m ++ ms) := by
  induction r with
  | nil => exact s
  | cons h r ih => exact .cons h ih
theorem StoR.take {S : Sto} {m : List Addr} (n : Nat) (r : StoR K H av S m) : StoR K H av (S.take n) (m.take n) := by
  induction r generalizing n with
  | nil => simp; exact .nil
  | cons h r ih =>
    cases n with
    | zero => exact .nil
    | succ n => exact .cons h (ih n)
/-- one object is changed -/
theorem StoR.set {S : Sto} {m : List Addr} {i : Nat} {a : Addr} {o : O} (r : StoR K H av S m) (nd : m.Nodup) (hi : m[i]? = some a) (h : ObjR K H' av o a) (k : ∀ b p, b ∈ m → b ≠ a → ObjR K H av p b → ObjR K H' av p b) :
    StoR K H' av (S.set i o) m := by
  induction r generalizing i with
  | nil => simp at hi
  | @cons p S b m hp r ih =>
    cases i with
    | zero =>
      have e : b = a := by simpa using hi
      subst e
      exact .cons h (r.imp fun q c hc x => k c q (List.mem_cons_of_mem _ hc) (fun z => (List.nodup_cons.mp nd).1 (z ▸ hc)) x)
    | succ i =>
      have hi' : m[i]? = some a := by simpa using hi
      refine .cons (k b p List.mem_cons_self (fun z => ?_) hp) (ih (List.nodup_cons.mp nd).2 hi' fun c q hc => k c q (List.mem_cons_of_mem _ hc))
      exact (List.nodup_cons.mp nd).1 (z ▸ List.mem_of_getElem? hi')
theorem Rel.at_ (r : Rel K m av H S) {i : Nat} {ds : List PyData} (e : S[i]? = some (.lst ds)) : ∃ a vs, m[i]? = some a ∧ H a = some (.lst vs) ∧ RepAll K H av ds vs := by
  obtain ⟨a, h1, vs, h2, h3⟩ := r.sto.get e
  exact ⟨a, vs, h1, h2, h3⟩
theorem Rel.len (r : Rel K m av H S) : S.length = m.length := r.sto.length
theorem RepA.evo {S : Sto} (R : Rel K m av H S) (e : Evo m H ms H') {x : A} {v : V} (r : RepA K H m av x v) : RepA K H' (m ++ ms) (av ++ ms) x v := by
  cases x with
  | d x => exact Rep.evo e R.sub r
  | ref i =>
    obtain ⟨a, h1, h2⟩ := r
    refine ⟨a, ?_, h2⟩
    rw [List.getElem?_append_left (List.getElem?_eq_some_iff.mp h1).1]
    exact h1
theorem Evo.trans {S1 : Sto} {H1 H2 : Hp} {ms ns : List Addr} (R1 : Rel K (m ++ ms) (av ++ ms) H1 S1) (e : Evo m H ms H1) (f : Evo (m ++ ms) H1 ns H2) : Evo m H (ms ++ ns) H2 where
  keep := fun a o h n => f.keep a o (e.keep a o h n) fun z => (List.mem_append.mp z).elim n fun z => by rw [e.new a z] at h; cases h
  new := fun p hp => (List.mem_append.mp hp).elim (e.new p) fun z => by
    have h1 := f.new p z
    cases q : H p with
    | none => rfl
    | some o =>
      by_cases hm : p ∈ m
      · obtain ⟨u, hu⟩ := R1.live p (List.mem_append_left _ (by have := R1.sub p (List.mem_append_left _ hm); exact (List.mem_append.mp this).elim id fun z2 => by rw [e.new p z2] at q; cases q))
        rw [hu] at h1; cases h1
      · rw [e.keep p o q hm] at h1; cases h1
/-- a new object that is not of the store -/
theorem Rel.laid {S : Sto} {p : Addr} {o : HO} (R : Rel K m av H S) (hp : H p = none) : Evo m H [] (upd H p o) ∧ Rel K m av (upd H p o) S ∧ p ∉ av := by
  have e : Evo m H [] (upd H p o) := ⟨fun a u h _ => by rw [upd_ne (ne_of_none h hp)]; exact h, fun _ h => nomatch h⟩
  have np : p ∉ av := fun z => by
    obtain ⟨u, hu⟩ := R.live p z
    rw [hu] at hp; cases hp
  refine ⟨e, ⟨R.sub, fun a ha => ?_, R.nd, ?_⟩, np⟩
  · obtain ⟨u, hu⟩ := R.live a ha
    exact ⟨u, by rw [upd_ne (ne_of_none hu hp)]; exact hu⟩
  · refine R.sto.imp fun q a ha x => ?_
    cases q with
    | lst ds =>
      obtain ⟨vs, h1, h2⟩ := x
      refine ⟨vs, by rw [upd_ne (ne_of_none h1 hp)]; exact h1, ?_⟩
      have := RepAll.evo e R.sub h2
      rwa [List.append_nil] at this
/-- a new list of the store -/
theorem Rel.grow {S : Sto} {p : Addr} {ds : List PyData} {vs : List V} (R : Rel K m av H S) (hp : H p = none) (r : RepAll K H av ds vs) :
    Evo m H [p] (upd H p (.lst vs)) ∧ Rel K (m ++ [p]) (av ++ [p]) (upd H p (.lst vs)) (S ++ [.lst ds]) := by
  have e : Evo m H [p] (upd H p (.lst vs)) := ⟨fun a u h _ => by rw [upd_ne (ne_of_none h hp)]; exact h, fun q h => by rw [List.mem_singleton.mp h]; exact hp⟩
  have np : p ∉ av := fun z => by
    obtain ⟨u, hu⟩ := R.live p z
    rw [hu] at hp; cases hp
  have npm : p ∉ m := fun z => np (R.sub p z)
  refine ⟨e, ⟨fun a ha => ?_, fun a ha => ?_, ?_, ?_⟩⟩
  · rcases List.mem_append.mp ha with z | z
    · exact List.mem_append_left _ (R.sub a z)
    · exact List.mem_append_right _ z
  · rcases List.mem_append.mp ha with z | z
    · obtain ⟨u, hu⟩ := R.live a z
      exact ⟨u, by rw [upd_ne (ne_of_none hu hp)]; exact hu⟩
    · rw [List.mem_singleton.mp z]
      exact ⟨_, upd_same⟩
  · exact List.nodup_append.mpr ⟨R.nd, by simp, fun a ha b hb z => npm (by rw [List.mem_singleton.mp hb] at z; exact z ▸ ha)⟩
  · refine StoR.append (R.sto.imp fun q a ha x => ?_) (.cons ⟨vs, upd_same, RepAll.evo e R.sub r⟩ .nil)
    cases q with
    | lst es =>
      obtain ⟨ws, h1, h2⟩ := x
      exact ⟨ws, by rw [upd_ne (ne_of_none h1 hp)]; exact h1, RepAll.evo e R.sub h2⟩
/-- a list of the store is written -/
theorem Rel.write {S : Sto} {i : Nat} {a : Addr} {ds : List PyData} {vs : List V} (R : Rel K m av H S) (hi : m[i]? = some a) (r : RepAll K H av ds vs) :
    Evo m H [] (upd H a (.lst vs)) ∧ Rel K m av (upd H a (.lst vs)) (S.set i (.lst ds)) := by
  have ha : a ∈ m := List.mem_of_getElem? hi
  have e : Evo m H [] (upd H a (.lst vs)) := ⟨fun b u h n => by rw [upd_ne (fun z => n (by rw [z]; exact ha))]; exact h, fun _ h => nomatch h⟩
  have rr : ∀ {es : List PyData} {ws : List V}, RepAll K H av es ws → RepAll K (upd H a (.lst vs)) av es ws := fun x => by
    have := RepAll.evo e R.sub x
    rwa [List.append_nil] at this
  refine ⟨e, ⟨R.sub, fun b hb => ?_, R.nd, ?_⟩⟩
  · by_cases z : b = a
    · rw [z]; exact ⟨_, upd_same⟩
    · obtain ⟨u, hu⟩ := R.live b hb
      exact ⟨u, by rw [upd_ne z]; exact hu⟩
  · refine R.sto.set R.nd hi ⟨vs, upd_same, rr r⟩ fun b p hb hne x => ?_
    cases p with
    | lst es =>
      obtain ⟨ws, h1, h2⟩ := x
      exact ⟨ws, by rw [upd_ne hne]; exact h1, rr h2⟩
/-- a def's own lists are left behind -/
theorem Rel.drop {S : Sto} {n : Nat} {H1 : Hp} (R : Rel K m av H S0) (R1 : Rel K (m ++ ms) (av ++ ms) H1 S) (e : Evo m H ms H1) (hn : n = m.length) : Rel K m av H1 (S.take n) where
  sub := R.sub
  live := fun a ha => R1.live a (List.mem_append_left _ ha)
  nd := R.nd
  sto := by
    have h := R1.sto.take n
    rw [hn, List.take_left'] at h
    · rw [hn]
      refine h.imp fun q a ha x => ?_
      cases q with
      | lst es =>
        obtain ⟨ws, h1, h2⟩ := x
        exact ⟨ws, h1, RepAll.less (fun b hb => List.mem_append_left _ hb) h2⟩
    · rfl
/-- the names' values -/
inductive EnR (K : PySem.W.Frag) (H : Hp) (m av : List Addr) : En → St → Prop
  | nil : EnR K H m av [] []
  | val {x : A} {v : V} {σd : En} {σ : St} (h : RepA K H m av x v) (r : EnR K H m av σd σ) : EnR K H m av (some x :: σd) (some v :: σ)
  | emp {o : Option V} {σd : En} {σ : St} (r : EnR K H m av σd σ) : EnR K H m av (none :: σd) (o :: σ)
theorem EnR.length {σd : En} {σ : St} (r : EnR K H m av σd σ) : σd.length = σ.length := by
  induction r with
  | nil => rfl
  | val _ _ ih => simp [ih]
  | emp _ ih => simp [ih]
theorem EnR.get {σd : En} {σ : St} (r : EnR K H m av σd σ) {i : Nat} {x : A} (e : σd[i]? = some (some x)) : ∃ v, σ[i]? = some (some v) ∧ RepA K H m av x v := by
  induction r generalizing i with
  | nil => simp at e
  | val h r ih =>
    cases i with
    | zero => simp at e; subst e; exact ⟨_, rfl, h⟩
    | succ i => simpa using ih (by simpa using e)
  | emp r ih =>
    cases i with
    | zero => simp at e
    | succ i => simpa using ih (by simpa using e)
theorem EnR.evo {S : Sto} (R : Rel K m av H S) (e : Evo m H ms H') {σd : En} {σ : St} (r : EnR K H m av σd σ) : EnR K H' (m ++ ms) (av ++ ms) σd σ := by
  induction r with
  | nil => exact .nil
  | val h r ih => exact .val (RepA.evo R e h) ih
  | emp r ih => exact .emp ih
theorem EnR.set {σd : En} {σ : St} (r : EnR K H m av σd σ) (i : Nat) {x : A} {v : V} (h : RepA K H m av x v) : EnR K H m av (σd.set i (Option.some x)) (σ.set i (Option.some v)) := by
  induction r generalizing i with
  | nil => exact .nil
  | val h' r ih =>
    cases i with
    | zero => exact .val h r
    | succ i => exact .val h' (ih i)
  | emp r ih =>
    cases i with
    | zero => exact .val h r
    | succ i => exact .emp (ih i)
theorem EnR.forget {σd : En} {σ : St} (r : EnR K H m av σd σ) (i : Nat) : EnR K H m av (σd.set i Option.none) (σ.set i Option.none) := by
  induction r generalizing i with
  | nil => exact .nil
  | val h' r ih =>
    cases i with
    | zero => exact .emp r
    | succ i => exact .val h' (ih i)
  | emp r ih =>
    cases i with
    | zero => exact .emp r
    | succ i => exact .emp (ih i)
theorem EnR.wipe {σd : En} {σ : St} (r : EnR K H m av σd σ) : ∀ own : List Nat, EnR K H m av (wipeD σd own) (L2.wipe σ own)
  | [] => r
  | v :: vs => (EnR.wipe r vs).forget v
theorem enr_setAll : ∀ {is : List Nat} {xs : List PyData} {vs : List V} {σd σd' : En} {σ : St}, EnR K H m av σd σ → RepAll K H av xs vs → setAll is xs σd = Option.some σd' →
    ∃ σ', EnR K H m av σd' σ' ∧ σ' = (is.zip vs).foldl (fun σ p => σ.set p.1 (Option.some p.2)) σ
  | [], [], _, _, _, _, r, h, e => by
    cases h
    simp only [setAll, Option.some.injEq] at e; subst e
    exact ⟨_, r, rfl⟩
  | i :: is, x :: xs, _, _, _, _, r, h, e => by
    cases h with
    | cons h t =>
      have q := enr_setAll (is := is) (EnR.set (x := .d x) r i h) t e
      exact q
  | [], _ :: _, _, _, _, _, _, _, e => by simp [setAll] at e
  | _ :: _, [], _, _, _, _, _, _, e => by simp [setAll] at e
end
end Pv
set_option Elab.async false
set_option maxRecDepth 100000
set_option linter.unusedVariables false
/-! Pv3: the rules of the machine by values, for data. -/
namespace Pv
open PySem PySem.Spec PyProof.Rows L2
abbrev SL := L2.St

/-! ### weakest readings -/
def we (X : Cx) (e : Expr) : TE := fun σ H Q => ∀ pins s, Inv X pins σ H s → wpAny (model X.prog X.w) X.A (eval e X.env) (EP X pins σ Q) X.xe s
theorem pe_we {X : Cx} {e : Expr} : PE X e (we X e) := ⟨fun pins s σ H Q I h => h pins s I⟩
theorem we_of {X : Cx} {e : Expr} {t : TE} (h : PE X e t) {σ : SL} {H : Hp} {Q : VK} (q : t σ H Q) : we X e σ H Q := fun pins s I => h.run pins s σ H Q I q
def wt (X : Cx) (e : Expr) : TT := fun σ H Q => ∀ pins s, Inv X pins σ H s → wpAny (model X.prog X.w) X.A (isTrue e X.env (eval e X.env)) (TP X pins σ Q) X.xe s
theorem pt_wt {X : Cx} {e : Expr} : PT X e (wt X e) := ⟨fun pins s σ H Q I h => h pins s I⟩
theorem wt_of {X : Cx} {e : Expr} {t : TT} (h : PT X e t) {σ : SL} {H : Hp} {Q : Bool → Hp → Prop} (q : t σ H Q) : wt X e σ H Q := fun pins s I => h.run pins s σ H Q I q
/-- a test whatever its whole is -/
def ww (X : Cx) (e : Expr) : TT := fun σ H Q => ∀ whole pins s, Inv X pins σ H s → wpAny (model X.prog X.w) X.A (isTrue e X.env whole) (TP X pins σ Q) X.xe s
theorem pw_ww {X : Cx} {e : Expr} : PW X e (ww X e) := ⟨fun wh pins s σ H Q I h => h wh pins s I⟩
theorem ww_of {X : Cx} {e : Expr} {t : TT} (h : PW X e t) {σ : SL} {H : Hp} {Q : Bool → Hp → Prop} (q : t σ H Q) : ww X e σ H Q := fun wh pins s I => h.run wh pins s σ H Q I q
def wa (X : Cx) (es : List Expr) : TA := fun σ H Q => ∀ pos pins s, Inv X pins σ H s → wpAny (model X.prog X.w) X.A (spliced (backTo pos (starEach es X.env))) (AP X pins σ Q) X.xe s
theorem pa_wa {X : Cx} {es : List Expr} : PA X es (wa X es) := ⟨fun pos pins s σ H Q I h => h pos pins s I⟩
theorem wa_of {X : Cx} {es : List Expr} {t : TA} (h : PA X es t) {σ : SL} {H : Hp} {Q : List V → Hp → Prop} (q : t σ H Q) : wa X es σ H Q := fun pos pins s I => h.run pos pins s σ H Q I q
/-- an operator's weakest reading -/
def wop (X : Cx) (f : Value → Value → Sem Value) : R2 := fun x y H Q => ∀ pins s σ v u, Inv X pins σ H s → RelV x v → RelV y u → wpAny (model X.prog X.w) X.A (f v u) (EP X pins σ Q) X.xe s
theorem op_wop {X : Cx} {f : Value → Value → Sem Value} : OpR X f (wop X f) := fun pins s σ H x y v u Q I r1 r2 h => h pins s σ v u I r1 r2
theorem wop_of {X : Cx} {f : Value → Value → Sem Value} {r : R2} (h : OpR X f r) {x y : V} {H : Hp} {Q : VK} (q : r x y H Q) : wop X f x y H Q := fun pins s σ v u I r1 r2 => h pins s σ H x y v u Q I r1 r2 q
def wun (X : Cx) (f : Value → Sem Value) : V → Hp → VK → Prop := fun x H Q => ∀ pins s σ v, Inv X pins σ H s → RelV x v → wpAny (model X.prog X.w) X.A (f v) (EP X pins σ Q) X.xe s
theorem un_wun {X : Cx} {f : Value → Sem Value} : UnR X f (wun X f) := fun pins s σ H x v Q I r1 h => h pins s σ v I r1
theorem wun_of {X : Cx} {f : Value → Sem Value} {r : V → Hp → VK → Prop} (h : UnR X f r) {x : V} {H : Hp} {Q : VK} (q : r x H Q) : wun X f x H Q := fun pins s σ v I r1 => h pins s σ H x v Q I r1 q
def wcl (X : Cx) (f : Value) : List V → Hp → VK → Prop := fun xs H Q => ∀ pins s σ us, Inv X pins σ H s → Vals xs us → wpAny (model X.prog X.w) X.A (call f us) (EP X pins σ Q) X.xe s
theorem cl_wcl {X : Cx} {f : Value} : CallR X f (wcl X f) := fun pins s σ H xs us Q I r h => h pins s σ us I r
theorem wcl_of {X : Cx} {f : Value} {r : List V → Hp → VK → Prop} (h : CallR X f r) {xs : List V} {H : Hp} {Q : VK} (q : r xs H Q) : wcl X f xs H Q := fun pins s σ us I r1 => h pins s σ H xs us Q I r1 q

/-! ### data that is read -/
section
variable {K : PySem.W.Frag} {H : Hp} {m av : List Addr}
def RdR (K : PySem.W.Frag) (H : Hp) (av : List Addr) (d : PyData) (v : V) : Prop :=
  Rep K H av d v ∨ ∃ ds a vs, d = .list ds ∧ v = .ref a ∧ H a = some (.lst vs) ∧ RepAll K H av ds vs
theorem rd_rep {S : Sto} (R : Rel K m av H S) {x : A} {v : V} {d : PyData} (r : RepA K H m av x v) (e : rd S x = some d) : RdR K H av d v := by
  cases x with
  | d x => simp only [rd, Option.some.injEq] at e; subst e; exact .inl r
  | ref i =>
    obtain ⟨a, h1, h2⟩ := r
    simp only [rd] at e
    cases q : S[i]? with
    | none => rw [q] at e; cases e
    | some o =>
      cases o with
      | lst ds =>
        rw [q] at e
        simp only [Option.some.injEq] at e
        obtain ⟨b, vs, h3, h4, h5⟩ := R.at_ q
        rw [h1] at h3; cases h3
        exact .inr ⟨ds, a, vs, e.symm, h2, h4, h5⟩
theorem RdR.dp {d : PyData} {v : V} (r : RdR K H av d v) : Dp K H v d := by
  rcases r with r | ⟨ds, a, vs, rfl, rfl, h, t⟩
  · exact r.dp
  · exact .lst (.inl (.inl h)) t.dp
theorem RdR.int {i : Int} {v : V} (r : RdR K H av (.int i) v) : v = .int i := by
  rcases r with r | ⟨ds, a, vs, e, _⟩
  · cases r; rfl
  · cases e
theorem RdR.bool {b : Bool} {v : V} (r : RdR K H av (.bool b) v) : v = .bl b := by
  rcases r with r | ⟨ds, a, vs, e, _⟩
  · cases r; rfl
  · cases e
theorem RdR.non {v : V} (r : RdR K H av .none v) : v = .non := by
  rcases r with r | ⟨ds, a, vs, e, _⟩
  · cases r; rfl
  · cases e
theorem RdR.str {s : Str} {v : V} (r : RdR K H av (.str s) v) : v = .str s := by
  rcases r with r | ⟨ds, a, vs, e, _⟩
  · cases r; rfl
  · cases e
theorem RdR.lst {ds : List PyData} {v : V} (r : RdR K H av (.list ds) v) : ∃ a vs, v = .ref a ∧ SqL K H a vs ∧ RepAll K H av ds vs := by
  rcases r with r | ⟨es, a, vs, e, rfl, h, t⟩
  · cases r with
    | lstH h _ t => exact ⟨_, _, rfl, .inl h, t⟩
    | lstK h t => exact ⟨_, _, rfl, .inr h, t⟩
  · cases e; exact ⟨a, vs, rfl, .inl (.inl h), t⟩
theorem RdR.tup {ds : List PyData} {v : V} (r : RdR K H av (.tuple ds) v) : ∃ a vs, v = .ref a ∧ SqT K H a vs ∧ RepAll K H av ds vs := by
  rcases r with r | ⟨es, a, vs, e, rfl, h, t⟩
  · cases r with
    | tupH h _ t => exact ⟨_, _, rfl, .inl h, t⟩
    | tupK h t => exact ⟨_, _, rfl, .inr h, t⟩
  · cases e
theorem RdR.tru {d : PyData} {v : V} {b : Bool} (r : RdR K H av d v) (e : truthD d = some b) : TruV K v H b := by
  cases d with
  | none => rw [r.non]; simp only [truthD, Option.some.injEq] at e; exact e.symm
  | bool c => rw [r.bool]; simp only [truthD, Option.some.injEq] at e; exact e.symm
  | int i => rw [r.int]; simp only [truthD, Option.some.injEq] at e; exact e.symm
  | str s =>
    rw [r.str]
    simp only [truthD] at e
    split at e
    · rename_i h
      simp only [Option.some.injEq] at e
      exact ⟨h, e.symm⟩
    · cases e
  | list ds =>
    obtain ⟨a, vs, rfl, h, t⟩ := r.lst
    simp only [truthD, Option.some.injEq] at e
    exact .inl ⟨vs, h, by rw [← e]; cases t <;> rfl⟩
  | tuple ds =>
    obtain ⟨a, vs, rfl, h, t⟩ := r.tup
    simp only [truthD, Option.some.injEq] at e
    exact .inr (.inl ⟨vs, h, by rw [← e]; cases t <;> rfl⟩)
  | dict _ => simp [truthD] at e
theorem asInts_rep : ∀ {ds : List PyData} {vs : List V} {ns : List Int}, RepAll K H av ds vs → asInts ds = some ns → vs = ns.map V.int
  | [], _, _, h, e => by cases h; simp [asInts] at e; subst e; rfl
  | d :: ds, _, _, h, e => by
    cases h with
    | cons h t =>
      cases d <;> simp only [asInts] at e <;> try cases e
      cases q : asInts ds with
      | none => rw [q] at e; cases e
      | some ns =>
        rw [q] at e
        simp only [Option.map_some, Option.some.injEq] at e
        subst e
        cases h
        rw [asInts_rep t q]; rfl
theorem asBools_rep : ∀ {ds : List PyData} {vs : List V} {ns : List Bool}, RepAll K H av ds vs → asBools ds = some ns → vs = ns.map V.bl
  | [], _, _, h, e => by cases h; simp [asBools] at e; subst e; rfl
  | d :: ds, _, _, h, e => by
    cases h with
    | cons h t =>
      cases d <;> simp only [asBools] at e <;> try cases e
      cases q : asBools ds with
      | none => rw [q] at e; cases e
      | some ns =>
        rw [q] at e
        simp only [Option.map_some, Option.some.injEq] at e
        subst e
        cases h
        rw [asBools_rep t q]; rfl
theorem RepAll.atI {ds : List PyData} {vs : List V} (r : RepAll K H av ds vs) {i : Int} {d : PyData} (e : L2.atI ds i = some d) : ∃ v, L2.atI vs i = some v ∧ Rep K H av d v := by
  unfold L2.atI at e ⊢
  rw [← r.length]
  cases q : ixN ds.length i with
  | none => rw [q] at e; cases e
  | some j =>
    rw [q] at e
    exact r.get e
theorem cut_rep {ds : List PyData} {vs : List V} (r : RepAll K H av ds vs) (lo hi : Option Int) : RepAll K H av (cutD ds lo hi) (cutV vs lo hi) := by
  unfold cutD cutV
  rw [r.length]
  exact (r.drop _).take _
end

/-! ### operators -/
theorem dec_str (a b : Str) : decide (V.str a = V.str b) = decide (a = b) := by
  by_cases h : a = b
  · rw [decide_eq_true h, h]; exact decide_eq_true rfl
  · rw [decide_eq_false h]; exact decide_eq_false fun z => h (V.str.inj z)
def opOf : BOp → Operator
  | .add => .Add | .sub => .Sub | .mul => .Mult | .fdiv => .FloorDiv | .mod => .Mod | .pow => .Pow
def copOf : COp → CmpOp
  | .eq => .Eq | .ne => .NotEq | .lt => .Lt | .le => .LtE | .gt => .Gt | .ge => .GtE | .isN => .Is | .notN => .IsNot
section
variable {X : Cx} {H : Hp} {av : List Addr} {Q : VK}
theorem op_ii {f : Value → Value → Sem Value} {i j k : Int}
    (rule : ∀ (t u : Tok) (s : Shared) (Q : Value → Shared → Prop) (E : Value → Shared → Prop), Q (.int k s.toks) { s with toks := s.toks + 1 } → wpAny (model X.prog X.w) X.A (f (.int i t) (.int j u)) Q E s)
    (q : Q (.int k) H) : wop X f (.int i) (.int j) H Q := fun pins s σ v u I r1 r2 => by
  obtain ⟨t, rfl⟩ := r1
  obtain ⟨t', rfl⟩ := r2
  exact rule t t' s _ _ ⟨.int k, H, I.tok _, ⟨_, rfl⟩, q⟩
theorem mulOk_of {a b : Int} (h : mulOk a b = true) : CMulW a b := by
  unfold mulOk at h
  have h' := of_decide_eq_true h
  exact h'
theorem bin_ok {o : BOp} {x y z : PyData} {v u : V} (e : binD o x y = some z) (rv : Rep X.K H av x v) (ru : Rep X.K H av y u) (q : ∀ w, Rep X.K H av z w → Q w H) : wop X (binaryOp (opOf o)) v u H Q := by
  unfold binD at e
  split at e <;> (try cases e) <;> (try (cases rv; cases ru))
  · exact op_ii (fun _ _ _ _ _ h => add_int h) (q _ (.int _))
  · refine fun pins s σ v u I r1 r2 => ?_
    obtain ⟨t, rfl⟩ := r1
    cases r2
    exact add_int_bool ⟨.int _, H, I.tok _, ⟨_, rfl⟩, q _ (.int _)⟩
  · exact op_ii (fun _ _ _ _ _ h => sub_int h) (q _ (.int _))
  · refine fun pins s σ v u I r1 r2 => ?_
    obtain ⟨t, rfl⟩ := r1
    cases r2
    exact PySem.IntBool.sub_int_bool ⟨.int _, H, I.tok _, ⟨_, rfl⟩, q _ (.int _)⟩
  · refine fun pins s σ v u I r1 r2 => ?_
    cases r1
    cases r2
    exact sub_bool ⟨.int _, H, I.tok _, ⟨s.toks, rfl⟩, q _ (.int _)⟩
  · split at e <;> cases e
    rename_i hm
    exact op_ii (fun _ _ _ _ _ h => mul_int h (CMulW.ok (mulOk_of hm))) (q _ (.int _))
  · split at e <;> cases e
    rename_i hm
    unfold divOk at hm
    rw [Bool.and_eq_true, decide_eq_true_eq, decide_eq_true_eq] at hm
    exact op_ii (fun _ _ _ _ _ h => floordiv_int hm.1 h (.inl (PyProof.noPylong_of_log2 hm.2))) (q _ (.int _))
  · split at e <;> cases e
    rename_i hm
    exact op_ii (fun _ _ _ _ _ h => mod_int' hm h) (q _ (.int _))
  · split at e <;> cases e
    rename_i hm
    unfold powOk at hm
    rw [Bool.and_eq_true, decide_eq_true_eq, decide_eq_true_eq] at hm
    exact op_ii (fun _ _ _ _ _ h => pow_int hm.1 hm.2 h) (q _ (.int _))
theorem cmp_ok (hu : X.A.units + 64 < cLine) {o : COp} {x y : PyData} {v u : V} {b : Bool} (e : cmpD o x y = some b) (rv : RdR X.K H av x v) (ru : RdR X.K H av y u) (q : Q (.bl b) H) : wop X (compareOp (copOf o)) v u H Q := by
  unfold cmpD at e
  split at e
  · cases e
    rw [rv.str, ru.str]
    exact wop_of op_eq ⟨rfl, by rw [dec_str]; exact q⟩
  · cases e
    rw [rv.str, ru.str]
    exact wop_of op_ne ⟨rfl, by rw [dec_str]; exact q⟩
  · split at e <;> cases e
    rename_i hf
    rw [Bool.and_eq_true] at hf
    exact wop_of (op_eqD hu) ⟨_, _, rv.dp, ru.dp, hf.1, hf.2, q⟩
  · split at e <;> cases e
    rename_i hf
    rw [Bool.and_eq_true] at hf
    exact wop_of (op_neD hu) ⟨_, _, rv.dp, ru.dp, hf.1, hf.2, q⟩
  · cases e
    rw [rv.int, ru.int]
    exact wop_of op_lt ⟨_, _, rfl, rfl, q⟩
  · cases e
    rw [rv.int, ru.int]
    exact wop_of op_le ⟨_, _, rfl, rfl, q⟩
  · cases e
    rw [rv.int, ru.int]
    exact wop_of op_gt ⟨_, _, rfl, rfl, q⟩
  · cases e
    rw [rv.int, ru.int]
    exact wop_of op_ge ⟨_, _, rfl, rfl, q⟩
  · cases e
    rw [ru.non]
    refine wop_of op_isN ⟨rfl, ?_⟩
    have : decide (v = V.non) = isNone x := by
      cases rv.dp <;> simp [isNone]
    rw [this]; exact q
  · cases e
    rw [ru.non]
    refine wop_of op_notN ⟨rfl, ?_⟩
    have : decide (v = V.non) = isNone x := by
      cases rv.dp <;> simp [isNone]
    rw [this]; exact q
  · cases e
end
end Pv
set_option Elab.async false
set_option maxRecDepth 100000
set_option linter.unusedVariables false
/-! Pv4: built-ins for data. -/
namespace Pv
open PySem PySem.Spec PyProof.Rows L2

/-- how a built-in stands: by its name among the built-ins (a function, a class), or imported -/
inductive BK where
  | fn (x : Str) (id : String)
  | ty (x : Str) (id : String)
  | im (x : Str) (id : String)
def biK : Bi → BK
  | .len => .fn "len" "len"
  | .abs => .fn "abs" "abs"
  | .int => .ty "int" "int"
  | .max => .fn "max" "max"
  | .min => .fn "min" "min"
  | .sum => .fn "sum" "sum"
  | .all => .fn "all" "all"
  | .any => .fn "any" "any"
  | .isInt => .fn "isinstance" "isinstance"
  | .isBool => .fn "isinstance" "isinstance"
  | .isTup => .fn "isinstance" "isinstance"
  | .repr => .fn "repr" "repr"
  | .gcd => .im "gcd" "math.gcd"
  | .isqrt => .im "isqrt" "math.isqrt"
  | .tuple => .ty "tuple" "tuple"
  | .list => .ty "list" "list"
  | .listRange => .ty "list" "list"
def BK.val : BK → Value
  | .fn _ id => .builtin id
  | .ty _ id => .type id
  | .im _ id => .builtin id
def biX : Bi → List V
  | .isInt => [.ty "int"]
  | .isBool => [.ty "bool"]
  | .isTup => [.ty "tuple"]
  | _ => []
inductive RdRs (K : PySem.W.Frag) (H : Hp) (av : List Addr) : List PyData → List V → Prop
  | nil : RdRs K H av [] []
  | cons {d : PyData} {ds : List PyData} {v : V} {vs : List V} (h : RdR K H av d v) (r : RdRs K H av ds vs) : RdRs K H av (d :: ds) (v :: vs)
mutual
theorem hasDict_of_dp {K : PySem.W.Frag} {H : Hp} : ∀ {v : V} {d : PyData}, Dp K H v d → d.hasDict = false
  | _, _, .non => by simp only [PyData.hasDict]
  | _, _, .bl _ => by simp only [PyData.hasDict]
  | _, _, .int _ => by simp only [PyData.hasDict]
  | _, _, .str _ => by simp only [PyData.hasDict]
  | _, _, .lst _ r => by simp only [PyData.hasDict]; exact hasDicts_of_dp r
  | _, _, .tup _ r => by simp only [PyData.hasDict]; exact hasDicts_of_dp r
theorem hasDicts_of_dp {K : PySem.W.Frag} {H : Hp} : ∀ {vs : List V} {ds : List PyData}, DpAll K H vs ds → PyData.hasDictAll ds = false
  | _, _, .nil => by simp only [PyData.hasDictAll]
  | _, _, .cons h r => by simp only [PyData.hasDictAll, hasDict_of_dp h, hasDicts_of_dp r, Bool.or_self]
end
section
variable {X : Cx} {H : Hp} {m av : List Addr} {S : Sto} {Q : VK}
theorem call_isqrt : CallR X (.builtin "math.isqrt") (fun xs H Q => ∃ i : Int, xs = [.int i] ∧ 0 ≤ i ∧ i.natAbs.log2 < 13000 ∧ Q (.int ((Float64.isqrt i.toNat : Nat) : Int)) H) := by
  intro pins s σ H xs us Q I r h
  obtain ⟨i, rfl, h0, h1, q⟩ := h
  obtain ⟨u, rfl, t, rfl⟩ := vals1 r
  have e : i.toNat = i.natAbs := by omega
  have h2 : i.toNat.log2 < 13000 := by rw [e]; exact h1
  exact call_function_meets PySem.W.MGF.kind_isqrt PySem.W.MGF.plain_isqrt PySem.W.MGF.entry_isqrt (PySem.W.MGF.args_isqrt _) (PySem.W.mg_run_isqrt i t (by omega) (by omega) (by omega)).meets ⟨.int _, H, I.tok _, ⟨_, rfl⟩, q⟩
theorem call_repr (hg : X.A.guards = some []) (hu : X.A.units + 200 < cLine) : CallR X (.builtin "repr") (fun xs H Q => ∃ x d, xs = [x] ∧ Dp X.K H x d ∧ reprOk d = true ∧ Q (.str d.shown) H) := by
  intro pins s σ H xs us Q I r h
  obtain ⟨x, d, rfl, hd, ok, q⟩ := h
  obtain ⟨u, rfl, ru⟩ := vals1 r
  unfold reprOk at ok
  rw [Bool.and_eq_true, Bool.and_eq_true, decide_eq_true_eq, decide_eq_true_eq] at ok
  obtain ⟨⟨o1, o2⟩, o3⟩ := ok
  cases hd with
  | non =>
    cases ru
    exact PySem.P.repr_of_none ⟨.str _, H, I.tok _, ⟨s.toks, by simp only [PyData.shown]⟩, q⟩
  | bl b =>
    cases ru
    exact PySem.P.repr_of_bool ⟨.str _, H, I.tok _, ⟨s.toks, by simp only [PyData.shown]⟩, q⟩
  | int i =>
    obtain ⟨t, rfl⟩ := ru
    exact PySem.P.repr_of_int (by simpa [PyData.showable] using o2) ⟨.str _, H, I.tok _, ⟨s.toks, by simp only [PyData.shown]⟩, q⟩
  | str x =>
    obtain ⟨t, rfl⟩ := ru
    exact PySem.P.repr_of_str ⟨.str _, H, I.tok _, ⟨s.toks, by simp only [PyData.shown]⟩, q⟩ (by simpa only [PyData.shown] using o3)
  | @lst a xs ds hs ha =>
    cases ru
    obtain ⟨as, rr⟩ := Dp.reads I _ _ _ (Dp.lst hs ha) rfl
    have nd : (PyData.list ds).hasDict = true → sysModules ∉ as := fun z => by
      have := hasDict_of_dp (Dp.lst hs ha)
      rw [this] at z; cases z
    exact repr_of_reads' rr o2 nd hg (by omega) (fun _ _ e => e) (fun h' u tk k => ⟨.str _, H, I.kept k, ⟨_, rfl⟩, q⟩) o3
  | @tup a xs ds hs ha =>
    cases ru
    obtain ⟨as, rr⟩ := Dp.reads I _ _ _ (Dp.tup hs ha) rfl
    have nd : (PyData.tuple ds).hasDict = true → sysModules ∉ as := fun z => by
      have := hasDict_of_dp (Dp.tup hs ha)
      rw [this] at z; cases z
    exact repr_of_reads' rr o2 nd hg (by omega) (fun _ _ e => e) (fun h' u tk k => ⟨.str _, H, I.kept k, ⟨_, rfl⟩, q⟩) o3
/-- what a value's kind is -/
theorem ty_of {x : PyData} {v : V} (r : RdR X.K H av x v) : ∃ t, TyX X.K H v (.type t) ∧ ((∃ i, x = .int i ∧ t = "int") ∨ (∃ b, x = .bool b ∧ t = "bool") ∨ (∃ ds, x = .tuple ds ∧ t = "tuple") ∨ (∃ ds, x = .list ds ∧ t = "list") ∨ (∃ s, x = .str s ∧ t = "str") ∨ (x = .none ∧ t = "NoneType")) := by
  cases x with
  | none => rw [r.non]; exact ⟨_, .base .non, .inr (.inr (.inr (.inr (.inr ⟨rfl, rfl⟩))))⟩
  | bool b => rw [r.bool]; exact ⟨_, .base (.bl b), .inr (.inl ⟨b, rfl, rfl⟩)⟩
  | int i => rw [r.int]; exact ⟨_, .base (.int i), .inl ⟨i, rfl, rfl⟩⟩
  | str s => rw [r.str]; exact ⟨_, .base (.str s), .inr (.inr (.inr (.inr (.inl ⟨s, rfl, rfl⟩))))⟩
  | list ds =>
    obtain ⟨a, vs, rfl, h, t⟩ := r.lst
    refine ⟨"list", ?_, .inr (.inr (.inr (.inl ⟨ds, rfl, rfl⟩)))⟩
    rcases h with (h | ⟨o, h⟩) | ⟨o, its, n, h, c, _⟩
    · exact .base (.lst h)
    · exact .base (.frz h)
    · exact .kList h c
  | tuple ds =>
    obtain ⟨a, vs, rfl, h, t⟩ := r.tup
    refine ⟨"tuple", ?_, .inr (.inr (.inl ⟨ds, rfl, rfl⟩))⟩
    rcases h with (h | ⟨o, h⟩) | ⟨o, its, n, h, c, _⟩
    · exact .base (.tup h)
    · exact .fTuple h
    · exact .kTuple h c
  | dict _ =>
    rcases r with r | ⟨_, _, _, e, _⟩
    · cases r
    · cases e
theorem isi_ok {x : PyData} {v : V} {T : String} {b : Bool} (r : RdR X.K H av x v) (hb : ∀ t, TyX X.K H v (.type t) → ((∃ i, x = .int i ∧ t = "int") ∨ (∃ b, x = .bool b ∧ t = "bool") ∨ (∃ ds, x = .tuple ds ∧ t = "tuple") ∨ (∃ ds, x = .list ds ∧ t = "list") ∨ (∃ s, x = .str s ∧ t = "str") ∨ (x = .none ∧ t = "NoneType")) → kitB t T = some b)
    (q : Q (.bl b) H) : wcl X (.builtin "isinstance") [v, .ty T] H Q := by
  obtain ⟨t, h1, h2⟩ := ty_of r
  exact wcl_of call_isi ⟨v, .ty T, .type t, .type T, b, rfl, .ty T, h1, kit_ty (hb t h1 h2), q⟩
theorem q_same {v : V} {z : PyData} (R : Rel X.K m av H S) (q : ∀ H' v, Evo m H [] H' → Rel X.K m av H' S → Rep X.K H' av z v → Q v H') (h : Rep X.K H av z v) : Q v H := q H v Evo.refl R h
theorem bi_ok (hc : X.calm = true) (hg : X.A.guards = some []) (hu : X.A.units + 200 < cLine) {f : Bi} {ds : List PyData} {vs : List V} {z : PyData} (nl : f ≠ .listRange) (e : biD f ds = some z) (r : RdRs X.K H av ds vs) (R : Rel X.K m av H S)
    (q : ∀ H' v, Evo m H [] H' → Rel X.K m av H' S → Rep X.K H' av z v → Q v H') : wcl X (biK f).val (vs ++ biX f) H Q := by
  have qs := fun {v} (h : Rep X.K H av z v) => q_same R q h
  unfold biD at e
  split at e
  · -- len list
    cases r with | cons h t => cases t; cases e; obtain ⟨a, us, rfl, h, t⟩ := h.lst; exact wcl_of call_len_seq ⟨a, us, rfl, .inl h, by rw [← t.length]; exact qs (.int _)⟩
  · cases r with | cons h t => cases t; cases e; obtain ⟨a, us, rfl, h, t⟩ := h.tup; exact wcl_of call_len_seq ⟨a, us, rfl, .inr h, by rw [← t.length]; exact qs (.int _)⟩
  · split at e <;> cases e
    rename_i hz
    cases r with | cons h t => cases t; rw [h.str]; exact wcl_of call_len_str ⟨_, rfl, hz, qs (.int _)⟩
  · cases e; cases r with | cons h t => cases t; rw [h.int]; exact wcl_of call_abs ⟨_, rfl, qs (.int _)⟩
  · cases e; cases r with | cons h t => cases t; rw [h.int]; exact wcl_of call_int1 (.inl ⟨_, rfl, qs (.int _)⟩)
  · cases e; cases r with | cons h t => cases t; rw [h.bool]; exact wcl_of call_int1 (.inr ⟨_, rfl, qs (.int _)⟩)
  · cases e; cases r with | cons h t => cases t with | cons h2 t => cases t; rw [h.int, h2.int]; exact wcl_of (call_max2 hc) ⟨_, _, rfl, qs (.int _)⟩
  · cases e; cases r with | cons h t => cases t with | cons h2 t => cases t; rw [h.int, h2.int]; exact wcl_of (call_min2 hc) ⟨_, _, rfl, qs (.int _)⟩
  · rename_i xs
    cases w : asInts xs with
    | none => rw [w] at e; cases e
    | some ns =>
      rw [w] at e; cases e
      cases r with | cons h t => cases t; obtain ⟨a, us, rfl, h, t⟩ := h.lst; rw [asInts_rep t w] at h; exact wcl_of (cr_sum hc) ⟨a, ns, rfl, h, qs (.int _)⟩
  · rename_i xs
    cases w : asBools xs with
    | none => rw [w] at e; cases e
    | some ns =>
      rw [w] at e; cases e
      cases r with | cons h t => cases t; obtain ⟨a, us, rfl, h, t⟩ := h.lst; rw [asBools_rep t w] at h; exact wcl_of (cr_all hc) ⟨a, ns, rfl, h, qs (.bool _)⟩
  · rename_i xs
    cases w : asBools xs with
    | none => rw [w] at e; cases e
    | some ns =>
      rw [w] at e; cases e
      cases r with | cons h t => cases t; obtain ⟨a, us, rfl, h, t⟩ := h.lst; rw [asBools_rep t w] at h; exact wcl_of (cr_any hc) ⟨a, ns, rfl, h, qs (.bool _)⟩
  · cases e; cases r with | cons h t => cases t; exact isi_ok h (fun t _ z => by rcases z with ⟨i, e, rfl⟩ | ⟨i, e, rfl⟩ | ⟨i, e, rfl⟩ | ⟨i, e, rfl⟩ | ⟨i, e, rfl⟩ | ⟨e, rfl⟩ <;> first | contradiction | decide +kernel) (qs (.bool _))
  · cases e; cases r with | cons h t => cases t; exact isi_ok h (fun t _ z => by rcases z with ⟨i, e, rfl⟩ | ⟨i, e, rfl⟩ | ⟨i, e, rfl⟩ | ⟨i, e, rfl⟩ | ⟨i, e, rfl⟩ | ⟨e, rfl⟩ <;> first | contradiction | decide +kernel) (qs (.bool _))
  · rename_i n1 n2
    cases e; cases r with | cons h t => cases t; exact isi_ok h (fun t _ z => by rcases z with ⟨i, e, rfl⟩ | ⟨i, e, rfl⟩ | ⟨i, e, rfl⟩ | ⟨i, e, rfl⟩ | ⟨i, e, rfl⟩ | ⟨e, rfl⟩ <;> first | (exact (n1 _ e).elim) | (exact (n2 _ e).elim) | decide +kernel) (qs (.bool _))
  · cases e; cases r with | cons h t => cases t; exact isi_ok h (fun t _ z => by rcases z with ⟨i, e, rfl⟩ | ⟨i, e, rfl⟩ | ⟨i, e, rfl⟩ | ⟨i, e, rfl⟩ | ⟨i, e, rfl⟩ | ⟨e, rfl⟩ <;> first | contradiction | decide +kernel) (qs (.bool _))
  · rename_i n1
    cases e; cases r with | cons h t => cases t; exact isi_ok h (fun t _ z => by rcases z with ⟨i, e, rfl⟩ | ⟨i, e, rfl⟩ | ⟨i, e, rfl⟩ | ⟨i, e, rfl⟩ | ⟨i, e, rfl⟩ | ⟨e, rfl⟩ <;> first | (exact (n1 _ e).elim) | decide +kernel) (qs (.bool _))
  · cases e; cases r with | cons h t => cases t; exact isi_ok h (fun t _ z => by rcases z with ⟨i, e, rfl⟩ | ⟨i, e, rfl⟩ | ⟨i, e, rfl⟩ | ⟨i, e, rfl⟩ | ⟨i, e, rfl⟩ | ⟨e, rfl⟩ <;> first | contradiction | decide +kernel) (qs (.bool _))
  · rename_i n1
    cases e; cases r with | cons h t => cases t; exact isi_ok h (fun t _ z => by rcases z with ⟨i, e, rfl⟩ | ⟨i, e, rfl⟩ | ⟨i, e, rfl⟩ | ⟨i, e, rfl⟩ | ⟨i, e, rfl⟩ | ⟨e, rfl⟩ <;> first | (exact (n1 _ e).elim) | decide +kernel) (qs (.bool _))
  · split at e <;> cases e
    rename_i hz
    cases r with | cons h t => cases t; exact wcl_of (call_repr hg hu) ⟨_, _, rfl, h.dp, hz, qs (.str _)⟩
  · cases e; cases r with | cons h t => cases t with | cons h2 t => cases t; rw [h.int, h2.int]; exact wcl_of cr_gcd ⟨_, _, rfl, qs (.int _)⟩
  · split at e <;> cases e
    rename_i hz
    cases r with | cons h t => cases t; rw [h.int]; exact wcl_of call_isqrt ⟨_, rfl, hz.1, hz.2, qs (.int _)⟩
  · cases e; cases r with | cons h t => cases t; obtain ⟨a, us, rfl, h, t⟩ := h.lst; refine wcl_of call_tuple_of ⟨a, us, rfl, .inl ⟨h, fun l hl => ?_⟩⟩; obtain ⟨e1, R1, n1⟩ := R.laid (o := .tup us) hl; refine q _ _ e1 R1 ?_; have t' := RepAll.evo e1 R.sub t; rw [List.append_nil] at t'; exact .tupH (.inl upd_same) n1 t'
  · cases e; cases r with | cons h t => cases t; cases h with
      | inl h => obtain ⟨a, us, rfl, h2, t⟩ := (show RdR X.K H av _ _ from .inl h).tup; exact wcl_of call_tuple_of ⟨a, us, rfl, .inr ⟨h2, qs h⟩⟩
      | inr h => obtain ⟨_, _, _, e, _⟩ := h; cases e
  · cases e; cases r with | cons h t => cases t; obtain ⟨a, us, rfl, h, t⟩ := h.lst; refine wcl_of call_list_of ⟨a, us, rfl, .inl h, fun l hl => ?_⟩; obtain ⟨e1, R1, n1⟩ := R.laid (o := .lst us) hl; refine q _ _ e1 R1 ?_; have t' := RepAll.evo e1 R.sub t; rw [List.append_nil] at t'; exact .lstH (.inl upd_same) n1 t'
  · cases e; cases r with | cons h t => cases t; obtain ⟨a, us, rfl, h, t⟩ := h.tup; refine wcl_of call_list_of ⟨a, us, rfl, .inr h, fun l hl => ?_⟩; obtain ⟨e1, R1, n1⟩ := R.laid (o := .lst us) hl; refine q _ _ e1 R1 ?_; have t' := RepAll.evo e1 R.sub t; rw [List.append_nil] at t'; exact .lstH (.inl upd_same) n1 t'
  · exact (nl rfl).elim
  · cases e
end
end Pv
set_option Elab.async false
set_option maxRecDepth 100000
set_option linter.unusedVariables false
/-! Pv5: which text is which expression; what it does. -/
namespace Pv
open PySem PySem.Spec PyProof.Rows L2

/-- the text's facts: constants, defs by number, imported built-ins, the built-ins that stand -/
structure Stat where
  G : Str → Option PyData
  F : Str → Option Nat
  ps : Nat → List Str
  kw : Nat → Bool
  im : Str → Option String
  bl : List Str

section
variable (K : PySem.W.Frag)
def Post {α β : Type} (rep : Hp → List Addr → List Addr → α → β → Prop) (m av : List Addr) (H : Hp) (r : R α) (Q : β → Hp → Prop) : Prop := match r with
  | .ok a S' => ∀ ms H' v, Evo m H ms H' → Rel K (m ++ ms) (av ++ ms) H' S' → rep H' (m ++ ms) (av ++ ms) a v → Q v H'
  | _ => False
abbrev PostA := Post K (RepA K)
inductive RepAs (H : Hp) (m av : List Addr) : List A → List V → Prop
  | nil : RepAs H m av [] []
  | cons {x : A} {v : V} {as : List A} {vs : List V} (h : RepA K H m av x v) (r : RepAs H m av as vs) : RepAs H m av (x :: as) (v :: vs)
abbrev PostL := Post K (RepAs K)
abbrev PostB := Post K (fun _ _ _ (b k : Bool) => k = b)
end
section
variable {K : PySem.W.Frag} {α β γ : Type} {rep : Hp → List Addr → List Addr → γ → β → Prop} {m av ms : List Addr} {H H1 : Hp} {r : R α} {f : α → Sto → R γ} {Q : β → Hp → Prop}
theorem Post.step (h : Post K rep m av H (r.bind f) Q) {x : α} {S1 : Sto} (e : r = .ok x S1) (E : Evo m H ms H1) (R1 : Rel K (m ++ ms) (av ++ ms) H1 S1) : Post K rep (m ++ ms) (av ++ ms) H1 (f x S1) Q := by
  subst e
  rw [R.bind_ok] at h
  cases q : f x S1 with
  | ok y S2 =>
    rw [q] at h
    intro ns H2 v E2 R2 rv
    rw [List.append_assoc, List.append_assoc] at R2 rv
    exact h (ms ++ ns) H2 v (Evo.trans R1 E E2) R2 rv
  | ex c p S => rw [q] at h; exact h.elim
  | no => rw [q] at h; exact h.elim
theorem Post.has (h : Post K rep m av H (r.bind f) Q) : ∃ x S1, r = .ok x S1 := by
  cases r with
  | ok x S => exact ⟨x, S, rfl⟩
  | ex c p S => exact h.elim
  | no => exact h.elim
theorem post_ok {rep : Hp → List Addr → List Addr → α → β → Prop} {a : α} {S1 : Sto} (e : r = .ok a S1) (k : ∀ ms H' v, Evo m H ms H' → Rel K (m ++ ms) (av ++ ms) H' S1 → rep H' (m ++ ms) (av ++ ms) a v → Q v H') : Post K rep m av H r Q := by
  subst e; exact k
/-- at once -/
theorem Post.now {rep : Hp → List Addr → List Addr → α → β → Prop} {a : α} {S : Sto} {v : β} (h : Post K rep m av H (.ok a S) Q) (R : Rel K m av H S) (rv : rep H m av a v) : Q v H := by
  have := h [] H v Evo.refl (by rw [List.append_nil, List.append_nil]; exact R) (by rw [List.append_nil, List.append_nil]; exact rv)
  exact this
/-- behind a change that the store does not see -/
theorem Post.later {rep : Hp → List Addr → List Addr → α → β → Prop} {a : α} {S : Sto} {v : β} (h : Post K rep m av H (.ok a S) Q) (E : Evo m H ms H1) (R : Rel K (m ++ ms) (av ++ ms) H1 S) (rv : rep H1 (m ++ ms) (av ++ ms) a v) : Q v H1 := h ms H1 v E R rv
theorem Post.some {rep : Hp → List Addr → List Addr → α → β → Prop} {o : Option α} {S : Sto} (h : Post K rep m av H (R.opt S o) Q) : ∃ a, o = Option.some a ∧ Post K rep m av H (.ok a S) Q := by
  cases o with
  | none => exact h.elim
  | some a => exact ⟨a, rfl, h⟩
theorem RepAs.evo {S : Sto} (R : Rel K m av H S) (e : Evo m H ms H1) : ∀ {as : List A} {vs : List V}, RepAs K H m av as vs → RepAs K H1 (m ++ ms) (av ++ ms) as vs
  | _, _, .nil => .nil
  | _, _, .cons h r => .cons (RepA.evo R e h) (RepAs.evo R e r)
theorem RepAs.length : ∀ {as : List A} {vs : List V}, RepAs K H m av as vs → as.length = vs.length
  | _, _, .nil => rfl
  | _, _, .cons _ r => by simp [RepAs.length r]
theorem datas_rep : ∀ {as : List A} {vs : List V} {ds : List PyData}, RepAs K H m av as vs → datas as = Option.some ds → RepAll K H av ds vs
  | [], _, _, h, e => by cases h; simp only [datas, Option.some.injEq] at e; subst e; exact .nil
  | .ref _ :: _, _, _, h, e => by simp [datas] at e
  | .d x :: as, _, _, h, e => by
    cases h with
    | cons h t =>
      simp only [datas] at e
      cases q : datas as with
      | none => rw [q] at e; cases e
      | some ds =>
        rw [q] at e
        simp only [Option.map_some, Option.some.injEq] at e
        subst e
        exact .cons h (datas_rep t q)
theorem rds_rep {S : Sto} (R : Rel K m av H S) : ∀ {as : List A} {vs : List V} {ds : List PyData}, RepAs K H m av as vs → rds S as = Option.some ds → RdRs K H av ds vs
  | [], _, _, h, e => by cases h; simp only [rds, Option.some.injEq] at e; subst e; exact .nil
  | a :: as, _, _, h, e => by
    cases h with
    | cons h t =>
      simp only [rds] at e
      cases q : rd S a with
      | none => rw [q] at e; cases e
      | some d =>
        rw [q] at e
        cases q2 : rds S as with
        | none => rw [q2] at e; cases e
        | some ds =>
          rw [q2] at e
          simp only [Option.bind_some, Option.map_some, Option.some.injEq] at e
          subst e
          exact .cons (rd_rep R h q) (rds_rep R t q2)
end

/-- a def at f keeps what call says of it -/
def FnD (P : Program) (w : World) (K : PySem.W.Frag) (mg : Str → Option Value) (base : Heap) (d : Nat) (call : List A → Sto → R A) (f : Addr) (ps : List Str) (kw : Bool) : Prop :=
  ∃ fd : FuncData, (∀ (s : Shared) (us : List Value), us.length = ps.length → BindsTo s fd ⟨us, []⟩ (ps.zip us)) ∧ (kw = true → ∀ (s : Shared) (us : List Value), us.length = ps.length → BindsTo s fd ⟨[], ps.zip us⟩ (ps.zip us)) ∧
    ∀ (A' : Around) (outer : List Env) (s : Shared) (H : Hp) (args : Args) (us : List Value) (vs : List V) (as : List A) (m av : List Addr) (S : Sto) (Q : VK), Room d A' → A'.guards = some [] → Env0 P w K mg base A' outer s H →
      BindsTo s fd args (ps.zip us) → us.length = ps.length → Vals vs us → RepAs K H m av as vs → Rel K m av H S → PostA K m av H (call as S) Q → codeAny (model P w) A' (.call (.ref f) args) (CR CX0 outer P w H s Q E0) s

structure XOk (g : Stat) (N : List Str) (sc : Scope) (d : Nat) (c : Cfg) (X : Cx) : Prop where
  N_ : X.N = N
  sc_ : X.env.scope = sc
  nd : N.Nodup
  room : Room d X.A
  gds : X.A.guards = some []
  calm : X.calm = true
  glob : ∀ x dt, g.G x = some dt → ∃ u v, X.mg x = some u ∧ RelV v u ∧ ∀ H av, Rep X.K H av dt v
  bl : ∀ x ∈ g.bl, X.mg x = none
  im : ∀ x id, g.im x = some id → X.mg x = some (.builtin id)
  calls : ∀ x k, g.F x = some k → ∃ f, X.mg x = some (.ref f) ∧ PySem.W.keepIn X.K (.ref f) = true ∧ FnD X.prog X.w X.K X.mg X.base d (c.call k) f (g.ps k) (g.kw k) ∧ (∀ as S, as.length ≠ (g.ps k).length → c.call k as S = .no)

def Gb (sc : Scope) (x : Str) : Prop := sc.names.lookup x = some .globalImplicit
theorem XOk.gl {g : Stat} {N : List Str} {sc : Scope} {d : Nat} {c : Cfg} {X : Cx} (ok : XOk g N sc d c X) {x : Str} (h : Gb sc x) : Gl X x := by
  show X.env.scope.names.lookup x = _
  rw [ok.sc_]; exact h

/-- targets, in the frame of the def or of a comprehension -/
inductive TrTs (N : List Str) : Scope → Scope → List Expr → List Nat → Prop
  | nil {sc scope} : TrTs N sc scope [] []
  | cons {sc scope x p es i is} (h : N[i]? = some x) (l : Loc sc x) (hf : scope.names.lookup x = some .cell ∨ sc.names.lookup x = some .local) (r : TrTs N sc scope es is) : TrTs N sc scope (.Name x p :: es) (i :: is)
inductive TrT (N : List Str) : Scope → Scope → Expr → Tg → Prop
  | n {sc scope x p i} (h : N[i]? = some x) (l : Loc sc x) (hf : scope.names.lookup x = some .cell ∨ sc.names.lookup x = some .local) : TrT N sc scope (.Name x p) (.n i)
  | t {sc scope es k p is} (h : TrTs N sc scope es is) : TrT N sc scope (.Tuple es k p) (.t is)
def slotsOf : Tg → List Nat
  | .n i => [i]
  | .t is => is
def keyI : Option Expr → Option Int
  | some (.Constant (.int i) _ _) => some i
  | _ => none
mutual
inductive TrE (g : Stat) (N : List Str) : Scope → Expr → Ex → Prop
  | var {sc x p i} (h : N[i]? = some x) (v : Vis sc x) (d1 : (x == ("__debug__" : Str)) = false) (d2 : (x == ("__classdict__" : Str)) = false) : TrE g N sc (.Name x p) (.v i)
  | int {sc i j p} : TrE g N sc (.Constant (.int i) j p) (.k (.int i))
  | bool {sc b j p} : TrE g N sc (.Constant (.bool b) j p) (.k (.bool b))
  | non {sc j p} : TrE g N sc (.Constant .none j p) (.k .none)
  | str {sc s j p} : TrE g N sc (.Constant (.str s) j p) (.k (.str s))
  | glob {sc x p dt} (h : Gb sc x) (hg : g.G x = some dt) (d1 : (x == ("__debug__" : Str)) = false) : TrE g N sc (.Name x p) (.k dt)
  | bin {sc a b a' b' p} (o : BOp) (ha : TrE g N sc a a') (hb : TrE g N sc b b') : TrE g N sc (.BinOp a (opOf o) b p) (.bin o a' b')
  | neg {sc a a' p} (ha : TrE g N sc a a') : TrE g N sc (.UnaryOp .USub a p) (.neg a')
  | not {sc a a' p} (ha : TrE g N sc a a') : TrE g N sc (.UnaryOp .Not a p) (.not a')
  | cmp {sc a b a' b' p} (o : COp) (ha : TrE g N sc a a') (hb : TrE g N sc b b') : TrE g N sc (.Compare a [copOf o] [b] p) (.cmp o a' b')
  | chain {sc a b e a' b' e' p} (o o' : COp) (ha : TrE g N sc a a') (hb : TrE g N sc b b') (he : TrE g N sc e e') : TrE g N sc (.Compare a [copOf o, copOf o'] [b, e] p) (.chain o o' a' b' e')
  | one {sc op a a' p} (ha : TrE g N sc a a') : TrE g N sc (.BoolOp op [a] p) a'
  | and {sc a b r a' r' p} (ha : TrE g N sc a a') (hr : TrE g N sc (.BoolOp .And (b :: r) p) r') : TrE g N sc (.BoolOp .And (a :: b :: r) p) (.and a' r')
  | or {sc a b r a' r' p} (ha : TrE g N sc a a') (hr : TrE g N sc (.BoolOp .Or (b :: r) p) r') : TrE g N sc (.BoolOp .Or (a :: b :: r) p) (.or a' r')
  | ite {sc t a b t' a' b' p} (ht : TrE g N sc t t') (ha : TrE g N sc a a') (hb : TrE g N sc b b') : TrE g N sc (.IfExp t a b p) (.ite t' a' b')
  | tup {sc es xs k p} (h : TrEs g N sc es xs) (hl : es.length ≤ 1000) : TrE g N sc (.Tuple es k p) (.tup xs)
  | lst {sc es xs p} (h : TrEs g N sc es xs) (hl : es.length ≤ 1000) : TrE g N sc (.List es p) (.lst xs)
  | lstM {sc es xs p} (h : TrEs g N sc es xs) (hl : es.length ≤ 1000) : TrE g N sc (.List es p) (.lstM xs)
  | call {sc x p e es xs pos k} (h : Gb sc x) (hf : g.F x = some k) (d1 : (x == ("__debug__" : Str)) = false) (hs : TrEs g N sc (e :: es) xs) : TrE g N sc (.Call (.Name x p) (e :: es) [] pos) (.call k xs)
  | call0 {sc x p pos k} (h : Gb sc x) (hf : g.F x = some k) (d1 : (x == ("__debug__" : Str)) = false) : TrE g N sc (.Call (.Name x p) [] [] pos) (.call k .nil)
  | callK {sc x p q kws xs pos k} (h : Gb sc x) (hf : g.F x = some k) (hk : g.kw k = true) (d1 : (x == ("__debug__" : Str)) = false) (hs : TrKs g N sc (q :: kws) (g.ps k) xs) : TrE g N sc (.Call (.Name x p) [] (q :: kws) pos) (.call k xs)
  | biF {sc x id p e es xs pos} (f : Bi) (hf : biK f = .fn x id) (hx : biX f = []) (hb : bootBuiltins x = some (.builtin id)) (hl : x ∈ g.bl) (h : Gb sc x) (d1 : (x == ("__debug__" : Str)) = false) (d2 : x ≠ "__name__") (hs : TrEs g N sc (e :: es) xs) : TrE g N sc (.Call (.Name x p) (e :: es) [] pos) (.bi f xs)
  | biT {sc x id p e es xs pos} (f : Bi) (hf : biK f = .ty x id) (nr : f ≠ .listRange) (hb : bootBuiltins x = some (.type id)) (hl : x ∈ g.bl) (h : Gb sc x) (d1 : (x == ("__debug__" : Str)) = false) (d2 : x ≠ "__name__") (hs : TrEs g N sc (e :: es) xs) : TrE g N sc (.Call (.Name x p) (e :: es) [] pos) (.bi f xs)
  | biI {sc x id p e es xs pos} (f : Bi) (hf : biK f = .im x id) (hi : g.im x = some id) (h : Gb sc x) (d1 : (x == ("__debug__" : Str)) = false) (hs : TrEs g N sc (e :: es) xs) : TrE g N sc (.Call (.Name x p) (e :: es) [] pos) (.bi f xs)
  | isi {sc p p2 T e e' pos} (f : Bi) (hf : biK f = .fn "isinstance" "isinstance") (hT : biX f = [.ty T]) (hb : bootBuiltins (Str.ofString T) = some (.type T)) (hl : ("isinstance" : Str) ∈ g.bl) (hl2 : Str.ofString T ∈ g.bl) (h : Gb sc "isinstance") (h2 : Gb sc (Str.ofString T))
      (d1 : (Str.ofString T == ("__debug__" : Str)) = false) (d2 : Str.ofString T ≠ "__name__") (he : TrE g N sc e e') : TrE g N sc (.Call (.Name "isinstance" p) [e, .Name (Str.ofString T) p2] [] pos) (.bi f (.cons e' .nil))
  | lrange {sc p p2 e e' pos pos2} (hl : ("list" : Str) ∈ g.bl) (hl2 : ("range" : Str) ∈ g.bl) (h : Gb sc "list") (h2 : Gb sc "range") (he : TrE g N sc e e') : TrE g N sc (.Call (.Name "list" p) [.Call (.Name "range" p2) [e] [] pos2] [] pos) (.bi .listRange (.cons e' .nil))
  | ix {sc a b a' b' p} (ha : TrE g N sc a a') (hb : TrE g N sc b b') : TrE g N sc (.Subscript a b p) (.ix a' b')
  | dix {sc keys values i ks vs i' p p2} (hk : keys.map keyI = ks.map some) (nd : ks.Nodup) (h15 : ks.length ≤ 15) (h0 : keys ≠ []) (hl : keys.length = values.length) (hv : TrEs g N sc values vs) (hi : TrE g N sc i i') : TrE g N sc (.Subscript (.Dict keys values p2) i p) (.dix ks vs i')
  | slice {sc a a' lo hi l h p p2} (ha : TrE g N sc a a') (hl : TrO g N sc lo l) (hh : TrO g N sc hi h) : TrE g N sc (.Subscript a (.Slice lo hi none p2) p) (.slice a' l h)
  | lc {sc scope tg it e it' e' t cs cs' p} (own : List (Str × Nat)) (hb : blkC N sc scope own = true) (ht : TrT N (relS scope sc) scope tg t) (hi : TrE g N sc it it') (he : TrE g N (relS scope sc) e e') (hc : TrEs g N (relS scope sc) cs cs') (h1 : cs.length ≤ 1) (hin : (slotsOf t).all (fun i => decide (i ∈ own.map (·.2))) = true) : TrE g N sc (.ListComp e [⟨tg, it, cs, 0⟩] scope p) (.lc t (own.map (·.2)) it' e' cs')
  | lcR {sc scope x p1 p2 p3 n e n' e' i cs cs' p} (own : List (Str × Nat)) (hb : blkC N sc scope own = true) (ht : TrT N (relS scope sc) scope (.Name x p1) (.n i)) (hl2 : ("range" : Str) ∈ g.bl) (h2 : Gb sc "range") (hn : TrE g N sc n n') (he : TrE g N (relS scope sc) e e') (hc : TrEs g N (relS scope sc) cs cs') (h1 : cs.length ≤ 1) (hin : i ∈ own.map (·.2)) :
      TrE g N sc (.ListComp e [⟨.Name x p1, .Call (.Name "range" p2) [n] [] p3, cs, 0⟩] scope p) (.lcR i (own.map (·.2)) n' e' cs')
inductive TrEs (g : Stat) (N : List Str) : Scope → List Expr → Exs → Prop
  | nil {sc} : TrEs g N sc [] .nil
  | cons {sc e es x xs} (h : TrE g N sc e x) (r : TrEs g N sc es xs) : TrEs g N sc (e :: es) (.cons x xs)
inductive TrKs (g : Stat) (N : List Str) : Scope → List Keyword → List Str → Exs → Prop
  | nil {sc} : TrKs g N sc [] [] .nil
  | cons {sc e x p ks ns xs y} (h : TrE g N sc e x) (r : TrKs g N sc ks ns xs) : TrKs g N sc (⟨some y, e, p⟩ :: ks) (y :: ns) (.cons x xs)
inductive TrO (g : Stat) (N : List Str) : Scope → Option Expr → Exs → Prop
  | non {sc} : TrO g N sc none .nil
  | some {sc e x} (h : TrE g N sc e x) : TrO g N sc (some e) (.cons x .nil)
end
end Pv
set_option Elab.async false
set_option maxRecDepth 100000
set_option linter.unusedVariables false
/-! Pv6: an expression's meaning is what the machine does. -/
namespace Pv
open PySem PySem.Spec PyProof.Rows L2

section
variable {g : Stat} {N : List Str} {sc : Scope}
theorem TrE.star {e : Expr} {x : Ex} (h : TrE g N sc e x) (es : List Expr) (env : Env) : starEach (e :: es) env = (false, eval e env) :: starEach es env := by
  cases h <;> rfl
theorem TrEs.stars : ∀ {es : List Expr} {xs : Exs}, TrEs g N sc es xs → ∀ (pos : Pos) (env : Env), (backTo pos (starEach es env)).any (·.1) = false
  | [], _, _, _, _ => rfl
  | e :: es, _, h, pos, env => by
    cases h with
    | cons h r =>
      rw [h.star]
      exact r.stars pos env
theorem TrE.plainIx {e : Expr} {x : Ex} (h : TrE g N sc e x) : PlainIx e := by
  intro o i
  cases h <;> rfl
theorem TrE.noSl {e : Expr} {x : Ex} (h : TrE g N sc e x) : NoSl e := by
  intro o i
  cases h <;> rfl
theorem TrE.folded {e : Expr} {x : Ex} (h : TrE g N sc e x) (env : Env) (v : Value) : foldedSetIterable e env v = pure v := by
  cases h <;> rfl
end

section
variable (g : Stat) (N : List Str) (sc : Scope) (d : Nat) (c : Cfg)
def SE (e : Expr) (i : Ex) : Prop := ∀ (X : Cx), XOk g N sc d c X → ∀ (σd : En) (σ : SL) (H : Hp) (m av : List Addr) (S : Sto) (Q : VK), EnR X.K H m av σd σ → Rel X.K m av H S → PostA X.K m av H (ev c i σd S) Q → we X e σ H Q
def tst (i : Ex) (σ : En) (S : Sto) : R Bool := (ev c i σ S).bind fun x S1 => R.opt S1 ((rd S1 x).bind truthD)
def ST (e : Expr) (i : Ex) : Prop := ∀ (X : Cx), XOk g N sc d c X → ∀ (σd : En) (σ : SL) (H : Hp) (m av : List Addr) (S : Sto) (Q : Bool → Hp → Prop), EnR X.K H m av σd σ → Rel X.K m av H S → PostB X.K m av H (tst c i σd S) Q → wt X e σ H Q
def SW (e : Expr) (i : Ex) : Prop := ∀ (X : Cx), XOk g N sc d c X → ∀ (σd : En) (σ : SL) (H : Hp) (m av : List Addr) (S : Sto) (Q : Bool → Hp → Prop), EnR X.K H m av σd σ → Rel X.K m av H S → PostB X.K m av H (tst c i σd S) Q → ww X e σ H Q
def SA (es : List Expr) (is : Exs) : Prop := ∀ (X : Cx), XOk g N sc d c X → ∀ (σd : En) (σ : SL) (H : Hp) (m av : List Addr) (S : Sto) (Q : List V → Hp → Prop), EnR X.K H m av σd σ → Rel X.K m av H S → PostL X.K m av H (evs c is σd S) Q → wa X es σ H Q
def isBool : Expr → Bool
  | .BoolOp _ _ _ => true
  | _ => false
structure Snd (e : Expr) (i : Ex) : Prop where
  v : SE g N sc d c e i
  t : ST g N sc d c e i
  w : isBool e = true → SW g N sc d c e i
end
section
variable {g : Stat} {N : List Str} {sc : Scope} {d : Nat} {c : Cfg}
theorem ST.of_SE {e : Expr} {i : Ex} (h : SE g N sc d c e i) (he : ∀ (env : Env) whole, isTrue e env whole = (do let v ← whole; standAt e.pos; holding [v] (truthy v))) : ST g N sc d c e i := by
  intro X ok σd σ H m av S Q En R P
  obtain ⟨x, S1, e1⟩ := P.has
  refine wt_of (pt_truth pe_we (he X.env)) ?_
  refine h X ok σd σ H m av S _ En R (post_ok e1 fun ms H1 v E1 R1 r1 => ?_)
  have P1 := P.step e1 E1 R1
  obtain ⟨b, e2, P2⟩ := P1.some
  cases e3 : rd S1 x with
  | none => rw [e3] at e2; cases e2
  | some dt =>
    rw [e3] at e2
    exact ⟨b, (rd_rep R1 r1 e3).tru e2, P2.now R1 rfl⟩
theorem Snd.mk' {e : Expr} {i : Ex} (h : SE g N sc d c e i) (he : ∀ (env : Env) whole, isTrue e env whole = (do let v ← whole; standAt e.pos; holding [v] (truthy v))) (hb : isBool e = false) : Snd g N sc d c e i :=
  ⟨h, .of_SE h he, fun z => by rw [hb] at z; cases z⟩
theorem units64 {X : Cx} (ok : XOk g N sc d c X) : X.A.units + 64 < cLine := ok.room.units
theorem units200 {X : Cx} (ok : XOk g N sc d c X) : X.A.units + 200 < cLine := by have := ok.room.un; omega

theorem se_var {x : Str} {p : Pos} {i : Nat} (h : N[i]? = some x) (v : Vis sc x) (d1 : (x == ("__debug__" : Str)) = false) (d2 : (x == ("__classdict__" : Str)) = false) : SE g N sc d c (.Name x p) (.v i) := by
  intro X ok σd σ H m av S Q En R P
  simp only [ev] at P
  obtain ⟨a, e, P⟩ := P.some
  cases e2 : σd[i]? with
  | none => rw [e2] at e; cases e
  | some o =>
    rw [e2] at e
    simp only [Option.join_some] at e
    subst e
    obtain ⟨w, e3, r⟩ := En.get e2
    exact we_of (pe_var (i := i) (by rw [ok.N_]; exact h) (by rw [ok.sc_]; exact v) d1 d2) ⟨w, e3, P.now R r⟩
theorem se_const {e : Expr} {x : PyData} {v : V} (h : ∀ X : Cx, PE X e (tC v)) (r : ∀ K H av, Rep K H av x v) : SE g N sc d c e (.k x) := by
  intro X ok σd σ H m av S Q En R P
  exact we_of (h X) (P.now R (r _ _ _))
theorem se_glob {x : Str} {p : Pos} {dt : PyData} (h : Gb sc x) (hg : g.G x = some dt) (d1 : (x == ("__debug__" : Str)) = false) : SE g N sc d c (.Name x p) (.k dt) := by
  intro X ok σd σ H m av S Q En R P
  obtain ⟨u, v, e1, r1, r2⟩ := ok.glob x dt hg
  exact we_of (pe_glob (ok.gl h) e1 r1 d1) (P.now R (r2 _ _))
theorem se_bin {a b : Expr} {a' b' : Ex} {p : Pos} (o : BOp) (ha : SE g N sc d c a a') (hb : SE g N sc d c b b') : SE g N sc d c (.BinOp a (opOf o) b p) (.bin o a' b') := by
  intro X ok σd σ H m av S Q En R P
  simp only [ev] at P
  obtain ⟨x, S1, e1⟩ := P.has
  refine we_of (pe_op op_wop pe_we pe_we) ?_
  refine ha X ok σd σ H m av S _ En R (post_ok e1 fun ms H1 v E1 R1 r1 => ?_)
  have P1 := P.step e1 E1 R1
  obtain ⟨y, S2, e2⟩ := P1.has
  refine hb X ok σd σ H1 _ _ S1 _ (En.evo R E1) R1 (post_ok e2 fun ns H2 u E2 R2 r2 => ?_)
  have P2 := P1.step e2 E2 R2
  cases x with
  | ref _ => exact P2.elim
  | d x =>
    cases y with
    | ref _ => exact P2.elim
    | d y =>
      obtain ⟨z, e3, P3⟩ := P2.some
      cases e4 : binD o x y with
      | none => rw [e4] at e3; cases e3
      | some z' =>
        rw [e4] at e3
        simp only [Option.map_some, Option.some.injEq] at e3
        subst e3
        exact bin_ok e4 (RepA.evo R1 E2 (x := .d x) r1) r2 fun w hw => P3.now R2 hw
theorem se_neg {a : Expr} {a' : Ex} {p : Pos} (ha : SE g N sc d c a a') : SE g N sc d c (.UnaryOp .USub a p) (.neg a') := by
  intro X ok σd σ H m av S Q En R P
  simp only [ev] at P
  obtain ⟨x, S1, e1⟩ := P.has
  refine we_of (pe_un un_neg pe_we) ?_
  refine ha X ok σd σ H m av S _ En R (post_ok e1 fun ms H1 v E1 R1 r1 => ?_)
  have P1 := P.step e1 E1 R1
  split at P1
  · cases r1
    exact ⟨_, rfl, P1.now R1 (Rep.int _)⟩
  · exact P1.elim
theorem snd_not {a : Expr} {a' : Ex} {p : Pos} (ha : Snd g N sc d c a a') : Snd g N sc d c (.UnaryOp .Not a p) (.not a') := by
  refine ⟨?_, ?_, fun z => nomatch z⟩
  · intro X ok σd σ H m av S Q En R P
    simp only [ev] at P
    obtain ⟨x, S1, e1⟩ := P.has
    refine we_of (pe_notT pe_we) ?_
    refine ha.v X ok σd σ H m av S _ En R (post_ok e1 fun ms H1 v E1 R1 r1 => ?_)
    have P1 := P.step e1 E1 R1
    obtain ⟨z, e2, P2⟩ := P1.some
    cases e3 : rd S1 x with
    | none => rw [e3] at e2; cases e2
    | some dt =>
      rw [e3] at e2
      simp only [Option.bind_some] at e2
      cases e4 : truthD dt with
      | none => rw [e4] at e2; cases e2
      | some b =>
        rw [e4] at e2
        simp only [Option.map_some, Option.some.injEq] at e2
        subst e2
        exact ⟨b, (rd_rep R1 r1 e3).tru e4, P2.now R1 (Rep.bool _)⟩
  · intro X ok σd σ H m av S Q En R P
    simp only [tst, ev] at P
    cases e1 : ev c a' σd S with
    | ex _ _ _ => rw [e1] at P; exact P.elim
    | no => rw [e1] at P; exact P.elim
    | ok x S1 =>
      rw [e1] at P
      simp only [Pv.R.bind_ok] at P
      cases e3 : (rd S1 x).bind truthD with
      | none => rw [e3] at P; exact P.elim
      | some b =>
        rw [e3] at P
        simp only [Option.map_some, Pv.R.opt_some, Pv.R.bind_ok, rd, Option.bind_some, truthD] at P
        refine wt_of (pt_not pt_wt) ?_
        refine ha.t X ok σd σ H m av S _ En R ?_
        have e5 : tst c a' σd S = .ok b S1 := by simp only [tst, e1, Pv.R.bind_ok, e3, Pv.R.opt_some]
        exact post_ok e5 fun ms H1 v E1 R1 r1 => by
          have r1' : v = b := r1
          rw [r1']
          exact P.later E1 R1 rfl
theorem snd_cmp {a b : Expr} {a' b' : Ex} {p : Pos} (o : COp) (ha : SE g N sc d c a a') (hb : SE g N sc d c b b') : Snd g N sc d c (.Compare a [copOf o] [b] p) (.cmp o a' b') := by
  have hm : ∀ b : Expr, behindInMarks (copOf o) b = false := fun b => by cases o <;> exact nomark b
  have key : ∀ (X : Cx), XOk g N sc d c X → ∀ (σd : En) (σ : SL) (H : Hp) (m av : List Addr) (S : Sto) (Q : VK), EnR X.K H m av σd σ → Rel X.K m av H S →
      PostA X.K m av H (ev c (.cmp o a' b') σd S) Q → tOp (wop X (compareOp (copOf o))) (we X a) (we X b) σ H Q := by
    intro X ok σd σ H m av S Q En R P
    simp only [ev] at P
    obtain ⟨x, S1, e1⟩ := P.has
    refine ha X ok σd σ H m av S _ En R (post_ok e1 fun ms H1 v E1 R1 r1 => ?_)
    have P1 := P.step e1 E1 R1
    obtain ⟨y, S2, e2⟩ := P1.has
    refine hb X ok σd σ H1 _ _ S1 _ (En.evo R E1) R1 (post_ok e2 fun ns H2 u E2 R2 r2 => ?_)
    have P2 := P1.step e2 E2 R2
    obtain ⟨z, e3, P3⟩ := P2.some
    cases e4 : rd S2 x with
    | none => rw [e4] at e3; cases e3
    | some x' =>
      rw [e4] at e3
      simp only [Option.bind_some] at e3
      cases e5 : rd S2 y with
      | none => rw [e5] at e3; cases e3
      | some y' =>
        rw [e5] at e3
        simp only [Option.bind_some] at e3
        cases e6 : cmpD o x' y' with
        | none => rw [e6] at e3; cases e3
        | some k =>
          rw [e6] at e3
          simp only [Option.map_some, Option.some.injEq] at e3
          subst e3
          exact cmp_ok (units64 ok) e6 (rd_rep R2 (RepA.evo R1 E2 r1) e4) (rd_rep R2 r2 e5) (P3.now R2 (Rep.bool _))
  refine ⟨fun X ok σd σ H m av S Q En R P => we_of (pe_cmpR op_wop pe_we pe_we (hm b)) (key X ok σd σ H m av S Q En R P), fun X ok σd σ H m av S Q En R P => ?_, fun z => nomatch z⟩
  refine wt_of (pt_cmpR op_wop pe_we pe_we (hm b)) (key X ok σd σ H m av S _ En R ?_)
  simp only [tst] at P
  obtain ⟨x, S1, e1⟩ := P.has
  refine post_ok e1 fun ms H1 v E1 R1 r1 => ?_
  have P1 := P.step e1 E1 R1
  obtain ⟨k, e2, P2⟩ := P1.some
  have hx : ∃ b, x = .d (.bool b) := by
    simp only [ev] at e1
    cases q1 : ev c a' σd S with
    | ex _ _ _ => rw [q1] at e1; cases e1
    | no => rw [q1] at e1; cases e1
    | ok x1 T1 =>
      rw [q1, Pv.R.bind_ok] at e1
      cases q2 : ev c b' σd T1 with
      | ex _ _ _ => rw [q2] at e1; cases e1
      | no => rw [q2] at e1; cases e1
      | ok x2 T2 =>
        rw [q2, Pv.R.bind_ok] at e1
        cases q3 : (rd T2 x1).bind fun x => (rd T2 x2).bind fun y => (cmpD o x y).map fun b => A.d (.bool b) with
        | none => rw [q3] at e1; cases e1
        | some z =>
          rw [q3] at e1
          simp only [Pv.R.opt_some, Pv.R.ok.injEq] at e1
          obtain ⟨rfl, rfl⟩ := e1
          cases q4 : rd T2 x1 with
          | none => rw [q4] at q3; cases q3
          | some u1 =>
            cases q5 : rd T2 x2 with
            | none => rw [q4, q5] at q3; cases q3
            | some u2 =>
              cases q6 : cmpD o u1 u2 with
              | none => rw [q4, q5] at q3; simp only [Option.bind_some, q6] at q3; cases q3
              | some bb =>
                rw [q4, q5] at q3
                simp only [Option.bind_some, q6, Option.map_some, Option.some.injEq] at q3
                exact ⟨bb, q3.symm⟩
  obtain ⟨b, rfl⟩ := hx
  simp only [rd, Option.bind_some, truthD, Option.some.injEq] at e2
  subst e2
  cases r1
  exact ⟨_, rfl, P2.now R1 rfl⟩
theorem se_one {op : BoolOp} {a : Expr} {a' : Ex} {p : Pos} (ha : Snd g N sc d c a a') : Snd g N sc d c (.BoolOp op [a] p) a' := by
  have w : SW g N sc d c (.BoolOp op [a] p) a' := fun X ok σd σ H m av S Q En R P => by
    cases op with
    | And => exact ww_of (pw_and1 pt_wt) (ha.t X ok σd σ H m av S Q En R P)
    | Or => exact ww_of (pw_or1 pt_wt) (ha.t X ok σd σ H m av S Q En R P)
  exact ⟨fun X ok σd σ H m av S Q En R P => we_of (pe_one pe_we) (ha.v X ok σd σ H m av S Q En R P), fun X ok σd σ H m av S Q En R P => wt_of (PW.pt pw_ww) (w X ok σd σ H m av S Q En R P), fun _ => w⟩
/-- what a test of the first of two says -/
theorem tst_cases {a' : Ex} {σd : En} {S : Sto} {β γ : Type} {K : PySem.W.Frag} {rep : Hp → List Addr → List Addr → γ → β → Prop} {m av : List Addr} {H : Hp} {Q : β → Hp → Prop} {f : A → Sto → Bool → R γ}
    (P : Post K rep m av H ((ev c a' σd S).bind fun x S1 => match (rd S1 x).bind truthD with | some true => f x S1 true | some false => f x S1 false | none => .no) Q) :
    ∃ x S1 b, ev c a' σd S = .ok x S1 ∧ (rd S1 x).bind truthD = some b ∧ ∀ ms H1, Evo m H ms H1 → Rel K (m ++ ms) (av ++ ms) H1 S1 → Post K rep (m ++ ms) (av ++ ms) H1 (f x S1 b) Q := by
  obtain ⟨x, S1, e1⟩ := P.has
  cases e2 : (rd S1 x).bind truthD with
  | none => rw [e1, Pv.R.bind_ok] at P; simp only [e2] at P; exact P.elim
  | some b =>
    refine ⟨x, S1, b, e1, e2, fun ms H1 E1 R1 => ?_⟩
    have P1 := P.step e1 E1 R1
    simp only [e2] at P1
    cases b <;> exact P1
theorem tst_eq {a' : Ex} {σd : En} {S S1 : Sto} {x : A} {b : Bool} (e1 : ev c a' σd S = .ok x S1) (e2 : (rd S1 x).bind truthD = some b) : tst c a' σd S = .ok b S1 := by
  simp only [tst, e1, Pv.R.bind_ok, e2, Pv.R.opt_some]
theorem tru_of {K : PySem.W.Frag} {m av : List Addr} {H : Hp} {S : Sto} (R : Rel K m av H S) {x : A} {v : V} {b : Bool} (r : RepA K H m av x v) (e : (rd S x).bind truthD = some b) : TruV K v H b := by
  cases e3 : rd S x with
  | none => rw [e3] at e; cases e
  | some dt => rw [e3] at e; exact (rd_rep R r e3).tru e
theorem snd_and {a b : Expr} {r : List Expr} {a' r' : Ex} {p : Pos} (ha : Snd g N sc d c a a') (hr : Snd g N sc d c (.BoolOp .And (b :: r) p) r') : Snd g N sc d c (.BoolOp .And (a :: b :: r) p) (.and a' r') := by
  have w : SW g N sc d c (.BoolOp .And (a :: b :: r) p) (.and a' r') := fun X ok σd σ H m av S Q En R P => by
    simp only [tst, ev] at P
    have P' : Post X.K (fun _ _ _ (b k : Bool) => k = b) m av H ((ev c a' σd S).bind fun x S1 => match (rd S1 x).bind truthD with
      | some true => tst c r' σd S1 | some false => .ok false S1 | none => .no) Q := by
      cases q : ev c a' σd S with
      | ex _ _ _ => rw [q] at P; exact P.elim
      | no => rw [q] at P; exact P.elim
      | ok x S1 =>
        rw [q, Pv.R.bind_ok] at P
        rw [Pv.R.bind_ok]
        cases q2 : (rd S1 x).bind truthD with
        | none => rw [q2] at P; exact P.elim
        | some k =>
          cases k with
          | true => rw [q2] at P; exact P
          | false => rw [q2] at P; simp only [Pv.R.bind_ok, q2, Pv.R.opt_some] at P; exact P
    obtain ⟨x, S1, k, e1, e2, go⟩ := tst_cases (f := fun x S1 k => match k with | true => tst c r' σd S1 | false => .ok false S1) P'
    refine ww_of (pw_and pt_wt (pw_ww)) ?_
    refine ha.t X ok σd σ H m av S _ En R (post_ok (tst_eq e1 e2) fun ms H1 v E1 R1 r1 => ?_)
    have r1' : v = k := r1
    subst r1'
    have P1 := go ms H1 E1 R1
    cases v with
    | true => exact hr.w rfl X ok σd σ H1 _ _ S1 Q (En.evo R E1) R1 P1
    | false => exact P1.now R1 rfl
  refine ⟨fun X ok σd σ H m av S Q En R P => ?_, fun X ok σd σ H m av S Q En R P => wt_of (PW.pt pw_ww) (w X ok σd σ H m av S Q En R P), fun _ => w⟩
  simp only [ev] at P
  obtain ⟨x, S1, k, e1, e2, go⟩ := tst_cases (f := fun x S1 k => match k with | true => ev c r' σd S1 | false => .ok x S1) P
  refine we_of (pe_andT pe_we pe_we) ?_
  refine ha.v X ok σd σ H m av S _ En R (post_ok e1 fun ms H1 v E1 R1 r1 => ⟨k, tru_of R1 r1 e2, ?_⟩)
  have P1 := go ms H1 E1 R1
  cases k with
  | true => exact hr.v X ok σd σ H1 _ _ S1 Q (En.evo R E1) R1 P1
  | false => exact P1.now R1 r1
theorem snd_or {a b : Expr} {r : List Expr} {a' r' : Ex} {p : Pos} (ha : Snd g N sc d c a a') (hr : Snd g N sc d c (.BoolOp .Or (b :: r) p) r') : Snd g N sc d c (.BoolOp .Or (a :: b :: r) p) (.or a' r') := by
  have w : SW g N sc d c (.BoolOp .Or (a :: b :: r) p) (.or a' r') := fun X ok σd σ H m av S Q En R P => by
    simp only [tst, ev] at P
    have P' : Post X.K (fun _ _ _ (b k : Bool) => k = b) m av H ((ev c a' σd S).bind fun x S1 => match (rd S1 x).bind truthD with
      | some true => .ok true S1 | some false => tst c r' σd S1 | none => .no) Q := by
      cases q : ev c a' σd S with
      | ex _ _ _ => rw [q] at P; exact P.elim
      | no => rw [q] at P; exact P.elim
      | ok x S1 =>
        rw [q, Pv.R.bind_ok] at P
        rw [Pv.R.bind_ok]
        cases q2 : (rd S1 x).bind truthD with
        | none => rw [q2] at P; exact P.elim
        | some k =>
          cases k with
          | false => rw [q2] at P; exact P
          | true => rw [q2] at P; simp only [Pv.R.bind_ok, q2, Pv.R.opt_some] at P; exact P
    obtain ⟨x, S1, k, e1, e2, go⟩ := tst_cases (f := fun x S1 k => match k with | true => .ok true S1 | false => tst c r' σd S1) P'
    refine ww_of (pw_or pt_wt (pw_ww)) ?_
    refine ha.t X ok σd σ H m av S _ En R (post_ok (tst_eq e1 e2) fun ms H1 v E1 R1 r1 => ?_)
    have r1' : v = k := r1
    subst r1'
    have P1 := go ms H1 E1 R1
    cases v with
    | true => exact P1.now R1 rfl
    | false => exact hr.w rfl X ok σd σ H1 _ _ S1 Q (En.evo R E1) R1 P1
  refine ⟨fun X ok σd σ H m av S Q En R P => ?_, fun X ok σd σ H m av S Q En R P => wt_of (PW.pt pw_ww) (w X ok σd σ H m av S Q En R P), fun _ => w⟩
  simp only [ev] at P
  obtain ⟨x, S1, k, e1, e2, go⟩ := tst_cases (f := fun x S1 k => match k with | true => .ok x S1 | false => ev c r' σd S1) P
  refine we_of (pe_orT pe_we pe_we) ?_
  refine ha.v X ok σd σ H m av S _ En R (post_ok e1 fun ms H1 v E1 R1 r1 => ⟨k, tru_of R1 r1 e2, ?_⟩)
  have P1 := go ms H1 E1 R1
  cases k with
  | true => exact P1.now R1 r1
  | false => exact hr.v X ok σd σ H1 _ _ S1 Q (En.evo R E1) R1 P1
theorem se_ite {t a b : Expr} {t' a' b' : Ex} {p : Pos} (ht : ST g N sc d c t t') (ha : SE g N sc d c a a') (hb : SE g N sc d c b b') : SE g N sc d c (.IfExp t a b p) (.ite t' a' b') := by
  intro X ok σd σ H m av S Q En R P
  simp only [ev] at P
  obtain ⟨x, S1, k, e1, e2, go⟩ := tst_cases (f := fun x S1 k => match k with | true => ev c a' σd S1 | false => ev c b' σd S1) P
  refine we_of (pe_ifExp pt_wt pe_we pe_we) ?_
  refine ht X ok σd σ H m av S _ En R (post_ok (tst_eq e1 e2) fun ms H1 v E1 R1 r1 => ?_)
  have r1' : v = k := r1
  subst r1'
  have P1 := go ms H1 E1 R1
  cases v with
  | true => exact ha X ok σd σ H1 _ _ S1 Q (En.evo R E1) R1 P1
  | false => exact hb X ok σd σ H1 _ _ S1 Q (En.evo R E1) R1 P1
end
end Pv
set_option Elab.async false
set_option maxRecDepth 100000
set_option linter.unusedVariables false
/-! Pv7: displays, calls, items, slices. -/
namespace Pv
open PySem PySem.Spec PyProof.Rows L2
def Exs.len : Exs → Nat
  | .nil => 0
  | .cons _ r => r.len + 1
theorem evs_len {c : Cfg} : ∀ (xs : Exs) {σ : En} {S S1 : Sto} {as : List A}, evs c xs σ S = .ok as S1 → as.length = xs.len
  | .nil, _, _, _, _, h => by simp only [evs, Pv.R.ok.injEq] at h; rw [← h.1]; rfl
  | .cons a r, σ, S, S1, as, h => by
    simp only [evs] at h
    cases q : ev c a σ S with
    | ex _ _ _ => rw [q] at h; cases h
    | no => rw [q] at h; cases h
    | ok x T =>
      rw [q, Pv.R.bind_ok] at h
      cases q2 : evs c r σ T with
      | ex _ _ _ => rw [q2] at h; cases h
      | no => rw [q2] at h; cases h
      | ok ys T2 =>
        rw [q2, Pv.R.bind_ok] at h
        simp only [Pv.R.ok.injEq] at h
        rw [← h.1]
        simp [Exs.len, evs_len r q2]
theorem TrEs.len {g : Stat} {N : List Str} {sc : Scope} : ∀ {es : List Expr} {xs : Exs}, TrEs g N sc es xs → xs.len = es.length
  | [], _, h => by cases h; rfl
  | e :: es, _, h => by
    cases h with
    | cons h r => simp [Exs.len, TrEs.len r]
section
variable {g : Stat} {N : List Str} {sc : Scope} {d : Nat} {c : Cfg}
theorem sa_nil : SA g N sc d c [] .nil := by
  intro X ok σd σ H m av S Q En R P
  exact wa_of pa_nil (P.now R .nil)
theorem sa_cons {e : Expr} {es : List Expr} {x : Ex} {xs : Exs} (he : SE g N sc d c e x) (hr : SA g N sc d c es xs) (hs : ∀ env, starEach (e :: es) env = (false, eval e env) :: starEach es env) : SA g N sc d c (e :: es) (.cons x xs) := by
  intro X ok σd σ H m av S Q En R P
  simp only [evs] at P
  obtain ⟨a, S1, e1⟩ := P.has
  refine wa_of (pa_cons pe_we pa_wa (hs _)) ?_
  refine he X ok σd σ H m av S _ En R (post_ok e1 fun ms H1 v E1 R1 r1 => ?_)
  have P1 := P.step e1 E1 R1
  obtain ⟨as, S2, e2⟩ := P1.has
  refine hr X ok σd σ H1 _ _ S1 _ (En.evo R E1) R1 (post_ok e2 fun ns H2 vs E2 R2 r2 => ?_)
  exact (P1.step e2 E2 R2).now R2 (.cons (RepA.evo R1 E2 r1) r2)
theorem small (n : Nat) (h : n ≤ 1000) : n ≤ sizeLine := by rw [sizeLine_eq]; omega
theorem se_tup {es : List Expr} {xs : Exs} {k : Nat} {p : Pos} (h : SA g N sc d c es xs) (hl : xs.len ≤ 1000) : SE g N sc d c (.Tuple es k p) (.tup xs) := by
  intro X ok σd σ H m av S Q En R P
  simp only [ev] at P
  obtain ⟨as, S1, e1⟩ := P.has
  refine we_of (pe_tup pa_wa) ?_
  refine h X ok σd σ H m av S _ En R (post_ok e1 fun ms H1 vs E1 R1 r1 => ?_)
  have P1 := P.step e1 E1 R1
  obtain ⟨a, e2, P2⟩ := P1.some
  cases e3 : datas as with
  | none => rw [e3] at e2; cases e2
  | some ds =>
    rw [e3] at e2
    simp only [Option.map_some, Option.some.injEq] at e2
    subst e2
    have rr := datas_rep r1 e3
    refine ⟨small _ (by rw [← r1.length, evs_len xs e1]; exact hl), fun q hq => ?_⟩
    obtain ⟨E2, R2, nq⟩ := R1.laid (o := .tup vs) hq
    refine P2.later (ms := []) E2 (by rw [List.append_nil, List.append_nil]; exact R2) ?_
    have t' := RepAll.evo E2 R1.sub rr
    rw [List.append_nil] at t'
    rw [List.append_nil, List.append_nil]
    exact Rep.tupH (.inl upd_same) nq t'
theorem se_lst {es : List Expr} {xs : Exs} {p : Pos} (h : SA g N sc d c es xs) (hl : xs.len ≤ 1000) : SE g N sc d c (.List es p) (.lst xs) := by
  intro X ok σd σ H m av S Q En R P
  simp only [ev] at P
  obtain ⟨as, S1, e1⟩ := P.has
  refine we_of (pe_lst pa_wa) ?_
  refine h X ok σd σ H m av S _ En R (post_ok e1 fun ms H1 vs E1 R1 r1 => ?_)
  have P1 := P.step e1 E1 R1
  obtain ⟨a, e2, P2⟩ := P1.some
  cases e3 : datas as with
  | none => rw [e3] at e2; cases e2
  | some ds =>
    rw [e3] at e2
    simp only [Option.map_some, Option.some.injEq] at e2
    subst e2
    have rr := datas_rep r1 e3
    refine ⟨small _ (by rw [← r1.length, evs_len xs e1]; exact hl), fun q hq => ?_⟩
    obtain ⟨E2, R2, nq⟩ := R1.laid (o := .lst vs) hq
    refine P2.later (ms := []) E2 (by rw [List.append_nil, List.append_nil]; exact R2) ?_
    have t' := RepAll.evo E2 R1.sub rr
    rw [List.append_nil] at t'
    rw [List.append_nil, List.append_nil]
    exact Rep.lstH (.inl upd_same) nq t'
theorem se_lstM {es : List Expr} {xs : Exs} {p : Pos} (h : SA g N sc d c es xs) (hl : xs.len ≤ 1000) : SE g N sc d c (.List es p) (.lstM xs) := by
  intro X ok σd σ H m av S Q En R P
  simp only [ev] at P
  obtain ⟨as, S1, e1⟩ := P.has
  refine we_of (pe_lst pa_wa) ?_
  refine h X ok σd σ H m av S _ En R (post_ok e1 fun ms H1 vs E1 R1 r1 => ?_)
  have P1 := P.step e1 E1 R1
  cases e3 : datas as with
  | none => rw [e3] at P1; exact P1.elim
  | some ds =>
    rw [e3] at P1
    have rr := datas_rep r1 e3
    refine ⟨small _ (by rw [← r1.length, evs_len xs e1]; exact hl), fun q hq => ?_⟩
    obtain ⟨E2, R2⟩ := R1.grow hq rr
    refine P1.later (ms := [q]) E2 R2 ⟨q, ?_, rfl⟩
    rw [R1.len, List.getElem?_append_right (Nat.le_refl _), Nat.sub_self]; rfl
/-- a def runs -/
theorem run_fnD {X : Cx} {pins : List (Addr × Obj)} {σ : SL} {H : Hp} {s : Shared} {Q : VK} {m av : List Addr} {S : Sto} {call : List A → Sto → R A} {f : Addr} {ps : List Str} {kw : Bool} {us : List Value} {vs : List V} {as : List A}
    (F : FnD X.prog X.w X.K X.mg X.base d call f ps kw) (hr : Room d X.A) (hg : X.A.guards = some []) (I : Inv X pins σ H s) (r : Vals vs us) (ra : RepAs X.K H m av as vs) (Rl : Rel X.K m av H S) (P : PostA X.K m av H (call as S) Q) (hl : us.length = ps.length) :
    wpAny (model X.prog X.w) X.A (PySem.call (.ref f) us) (EP X pins σ Q) X.xe s := by
  obtain ⟨fd, b1, _, run⟩ := F
  refine wpAny_call (codeAny_mono (run X.A X.stack s H ⟨us, []⟩ us vs as m av S Q hr hg I.env0 (b1 s us hl) hl r ra Rl P) fun r s' hq => ?_)
  cases r with
  | error e => exact (show False from hq).elim
  | ok fl =>
    cases fl with
    | ret u => exact I.after hq
    | next => exact False.elim hq
    | brk => exact False.elim hq
    | cont => exact False.elim hq
theorem run_fnK {X : Cx} {pins : List (Addr × Obj)} {σ : SL} {H : Hp} {s : Shared} {Q : VK} {m av : List Addr} {S : Sto} {call : List A → Sto → R A} {f : Addr} {ps : List Str} {us : List Value} {vs : List V} {as : List A}
    (F : FnD X.prog X.w X.K X.mg X.base d call f ps true) (hr : Room d X.A) (hg : X.A.guards = some []) (I : Inv X pins σ H s) (r : Vals vs us) (ra : RepAs X.K H m av as vs) (Rl : Rel X.K m av H S) (P : PostA X.K m av H (call as S) Q) (hl : us.length = ps.length) :
    wpAny (model X.prog X.w) X.A (PySem.call (.ref f) [] (ps.zip us)) (EP X pins σ Q) X.xe s := by
  obtain ⟨fd, _, b2, run⟩ := F
  refine wpAny_call (codeAny_mono (run X.A X.stack s H ⟨[], ps.zip us⟩ us vs as m av S Q hr hg I.env0 (b2 rfl s us hl) hl r ra Rl P) fun r s' hq => ?_)
  cases r with
  | error e => exact (show False from hq).elim
  | ok fl =>
    cases fl with
    | ret u => exact I.after hq
    | next => exact False.elim hq
    | brk => exact False.elim hq
    | cont => exact False.elim hq
/-- the number of arguments is right -/
theorem args_right {X : Cx} {H : Hp} {m av : List Addr} {S : Sto} {Q : VK} {call : List A → Sto → R A} {ps : List Str} {as : List A} {vs : List V} {us : List Value} (h : ∀ as S, as.length ≠ ps.length → call as S = .no) (P : PostA X.K m av H (call as S) Q)
    (ra : RepAs X.K H m av as vs) (r : Vals vs us) : us.length = ps.length := by
  by_cases e : as.length = ps.length
  · rw [← r.length, ← ra.length]; exact e
  · rw [h as S e] at P; exact P.elim
theorem se_call {x : Str} {p pos : Pos} {e : Expr} {es : List Expr} {xs : Exs} {k : Nat} (h : Gb sc x) (hf : g.F x = some k) (d1 : (x == ("__debug__" : Str)) = false) (hs : SA g N sc d c (e :: es) xs)
    (he : ∀ env, starEach (e :: es) env = (false, eval e env) :: starEach es env) (hpl : ∀ pos env, (backTo pos (starEach es env)).any (·.1) = false) : SE g N sc d c (.Call (.Name x p) (e :: es) [] pos) (.call k xs) := by
  intro X ok σd σ H m av S Q En R P
  simp only [ev] at P
  obtain ⟨as, S1, e1⟩ := P.has
  obtain ⟨f, hm, hk, F, hno⟩ := ok.calls x k hf
  intro pins s I
  refine wpAny_Call_Name_kw (ld_glob I (ok.gl h) hm ?_ d1)
  refine PySem.W.callWith_K (h₀ := X.base) I.ok.mod.kin hk (hs X ok σd σ H m av S (fun vs H1 => ∃ ms, Evo m H ms H1 ∧ Rel X.K (m ++ ms) (av ++ ms) H1 S1 ∧ RepAs X.K H1 (m ++ ms) (av ++ ms) as vs) En R (post_ok e1 fun ms H1 vs E1 R1 r1 => ⟨ms, E1, R1, r1⟩) pos pins s I |> fun q => thn q fun us s1 q1 => ?_) (he _) (hpl _ _)
  obtain ⟨vs, H1, I1, rv, ms, E1, R1, r1⟩ := q1
  have P1 := P.step e1 E1 R1
  exact ⟨I1.kIn, run_fnD F ok.room ok.gds I1 rv r1 R1 P1 (args_right hno P1 r1 rv)⟩
theorem se_call0 {x : Str} {p pos : Pos} {k : Nat} (h : Gb sc x) (hf : g.F x = some k) (d1 : (x == ("__debug__" : Str)) = false) : SE g N sc d c (.Call (.Name x p) [] [] pos) (.call k .nil) := by
  intro X ok σd σ H m av S Q En R P
  simp only [ev, evs, Pv.R.bind_ok] at P
  obtain ⟨f, hm, hk, F, hno⟩ := ok.calls x k hf
  intro pins s I
  refine wpAny_Call_Name_kw (ld_glob I (ok.gl h) hm ?_ d1)
  exact PySem.W.callWith_K0 I.kIn hk (run_fnD (us := []) (vs := []) F ok.room ok.gds I .nil .nil R P (args_right hno P .nil .nil))
end
/-- keywords -/
def SK (g : Stat) (N : List Str) (sc : Scope) (d : Nat) (c : Cfg) (ks : List Keyword) (ns : List Str) (is : Exs) : Prop := (∀ (X : Cx), XOk g N sc d c X → ∀ (σd : En) (σ : SL) (H : Hp) (m av : List Addr) (S : Sto) (Q : List V → Hp → Prop), EnR X.K H m av σd σ → Rel X.K m av H S → PostL X.K m av H (evs c is σd S) Q →
    ∀ pos pins s, Inv X pins σ H s → wpAny (model X.prog X.w) X.A (evalAll ((backToKw pos (keywordEach ks X.env)).map (·.2))) (AP X pins σ Q) X.xe s) ∧
  (∀ pos env, (backToKw pos (keywordEach ks env)).filterMap (·.1) = ns ∧ (backToKw pos (keywordEach ks env)).all (·.1.isSome) = true ∧ (backToKw pos (keywordEach ks env)).any (·.1.isNone) = false)
section
variable {g : Stat} {N : List Str} {sc : Scope} {d : Nat} {c : Cfg}
theorem sk_nil : SK g N sc d c [] [] .nil := by
  refine ⟨fun X ok σd σ H m av S Q En R P pos pins s I => ?_, fun pos env => ⟨rfl, rfl, rfl⟩⟩
  exact (pk_nil (X := X)).run pos pins s σ H Q I (P.now R .nil)
theorem sk_cons {e : Expr} {x : Ex} {y : Str} {p : Pos} {ks : List Keyword} {ns : List Str} {xs : Exs} (he : SE g N sc d c e x) (hr : SK g N sc d c ks ns xs) : SK g N sc d c (⟨some y, e, p⟩ :: ks) (y :: ns) (.cons x xs) := by
  refine ⟨fun X ok σd σ H m av S Q En R P pos pins s I => ?_, fun pos env => ?_⟩
  · simp only [evs] at P
    obtain ⟨a, S1, e1⟩ := P.has
    have hk : PK X ks (fun σ H Q => ∀ pos pins s, Inv X pins σ H s → wpAny (model X.prog X.w) X.A (evalAll ((backToKw pos (keywordEach ks X.env)).map (·.2))) (AP X pins σ Q) X.xe s) := ⟨fun pos pins s σ H Q I h => h pos pins s I⟩
    refine (pk_cons (nm := some y) (kpos := p) (pe_we (X := X) (e := e)) hk).run pos pins s σ H Q I ?_
    refine he X ok σd σ H m av S _ En R (post_ok e1 fun ms H1 v E1 R1 r1 => ?_)
    have P1 := P.step e1 E1 R1
    obtain ⟨as, S2, e2⟩ := P1.has
    refine hr.1 X ok σd σ H1 _ _ S1 _ (En.evo R E1) R1 (post_ok e2 fun ns H2 vs E2 R2 r2 => ?_)
    exact (P1.step e2 E2 R2).now R2 (.cons (RepA.evo R1 E2 r1) r2)
  · obtain ⟨h1, h2, h3⟩ := hr.2 pos env
    have e1 : backToKw pos (keywordEach (⟨some y, e, p⟩ :: ks) env) = (some y, do let v ← eval e env; standAt pos; pure v) :: backToKw pos (keywordEach ks env) := rfl
    rw [e1]
    refine ⟨?_, ?_, ?_⟩
    · simp only [List.filterMap_cons, h1]
    · simp only [List.all_cons, h2, Option.isSome_some, Bool.and_self]
    · simp only [List.any_cons, h3, Option.isNone_some, Bool.or_self]
theorem se_callK {x : Str} {p pos : Pos} {q : Keyword} {ks : List Keyword} {xs : Exs} {k : Nat} (h : Gb sc x) (hf : g.F x = some k) (hkw : g.kw k = true) (d1 : (x == ("__debug__" : Str)) = false) (hs : SK g N sc d c (q :: ks) (g.ps k) xs) : SE g N sc d c (.Call (.Name x p) [] (q :: ks) pos) (.call k xs) := by
  intro X ok σd σ H m av S Q En R P
  simp only [ev] at P
  obtain ⟨as, S1, e1⟩ := P.has
  obtain ⟨f, hm, hk, F, hno⟩ := ok.calls x k hf
  rw [hkw] at F
  obtain ⟨n1, n2, n3⟩ := hs.2 pos X.env
  intro pins s I
  refine wpAny_Call_Name_kw (ld_glob I (ok.gl h) hm ?_ d1)
  refine PySem.W.callWith_KW0 (h₀ := X.base) I.ok.mod.kin hk n2 ?_ (by rw [n3]; rfl)
  refine thn (hs.1 X ok σd σ H m av S (fun vs H1 => ∃ ms, Evo m H ms H1 ∧ Rel X.K (m ++ ms) (av ++ ms) H1 S1 ∧ RepAs X.K H1 (m ++ ms) (av ++ ms) as vs) En R (post_ok e1 fun ms H1 vs E1 R1 r1 => ⟨ms, E1, R1, r1⟩) pos pins s I) fun us s1 q1 => ?_
  obtain ⟨vs, H1, I1, rv, ms, E1, R1, r1⟩ := q1
  have P1 := P.step e1 E1 R1
  rw [n1]
  exact ⟨I1.kIn, run_fnK F ok.room ok.gds I1 rv r1 R1 P1 (args_right hno P1 r1 rv)⟩
/-- a built-in, its arguments told -/
theorem bi_run {X : Cx} (ok : XOk g N sc d c X) {f : Bi} {xs : Exs} {σd : En} {S : Sto} {H : Hp} {m av : List Addr} {Q : VK} (nr : f ≠ .listRange) (P : PostA X.K m av H (ev c (.bi f xs) σd S) Q) :
    ∃ as S1, evs c xs σd S = .ok as S1 ∧ ∀ ms H1 vs, Evo m H ms H1 → Rel X.K (m ++ ms) (av ++ ms) H1 S1 → RepAs X.K H1 (m ++ ms) (av ++ ms) as vs → wcl X (biK f).val (vs ++ biX f) H1 Q := by
  simp only [ev] at P
  obtain ⟨as, S1, e1⟩ := P.has
  refine ⟨as, S1, e1, fun ms H1 vs E1 R1 r1 => ?_⟩
  have P1 := P.step e1 E1 R1
  obtain ⟨a, e2, P2⟩ := P1.some
  cases e3 : rds S1 as with
  | none => rw [e3] at e2; cases e2
  | some ds =>
    rw [e3] at e2
    simp only [Option.bind_some] at e2
    cases e4 : biD f ds with
    | none => rw [e4] at e2; cases e2
    | some z =>
      rw [e4] at e2
      simp only [Option.map_some, Option.some.injEq] at e2
      subst e2
      refine bi_ok ok.calm ok.gds (units200 ok) nr e4 (rds_rep R1 r1 e3) R1 fun H2 v E2 R2 rv => ?_
      exact P2.later (ms := []) E2 (by rw [List.append_nil, List.append_nil]; exact R2) (by rw [List.append_nil, List.append_nil]; exact rv)
theorem se_biF {x : Str} {id : String} {p pos : Pos} {e : Expr} {es : List Expr} {xs : Exs} (f : Bi) (hf : biK f = .fn x id) (hx : biX f = []) (hb : bootBuiltins x = some (.builtin id)) (hl : x ∈ g.bl) (h : Gb sc x) (d1 : (x == ("__debug__" : Str)) = false) (d2 : x ≠ "__name__") (hs : SA g N sc d c (e :: es) xs)
    (he : ∀ env, starEach (e :: es) env = (false, eval e env) :: starEach es env) (hpl : ∀ pos env, (backTo pos (starEach es env)).any (·.1) = false) : SE g N sc d c (.Call (.Name x p) (e :: es) [] pos) (.bi f xs) := by
  intro X ok σd σ H m av S Q En R P
  obtain ⟨as, S1, e1, go⟩ := bi_run ok (by rintro rfl; cases hf) P
  refine we_of (pe_callB (cl_wcl (f := .builtin id)) (ok.gl h) (ok.bl x hl) hb pa_wa d2 d1 (he _) (hpl _ _)) ?_
  refine hs X ok σd σ H m av S _ En R (post_ok e1 fun ms H1 vs E1 R1 r1 => ?_)
  have := go ms H1 vs E1 R1 r1
  rw [hf, hx, List.append_nil] at this
  exact this
theorem se_biT {x : Str} {id : String} {p pos : Pos} {e : Expr} {es : List Expr} {xs : Exs} (f : Bi) (hf : biK f = .ty x id) (nr : f ≠ .listRange) (hb : bootBuiltins x = some (.type id)) (hl : x ∈ g.bl) (h : Gb sc x) (d1 : (x == ("__debug__" : Str)) = false) (d2 : x ≠ "__name__") (hs : SA g N sc d c (e :: es) xs)
    (he : ∀ env, starEach (e :: es) env = (false, eval e env) :: starEach es env) (hpl : ∀ pos env, (backTo pos (starEach es env)).any (·.1) = false) : SE g N sc d c (.Call (.Name x p) (e :: es) [] pos) (.bi f xs) := by
  intro X ok σd σ H m av S Q En R P
  obtain ⟨as, S1, e1, go⟩ := bi_run ok nr P
  have hx : biX f = [] := by cases f <;> first | rfl | cases hf
  refine we_of (pe_callTy (cl_wcl (f := .type id)) (ok.gl h) (ok.bl x hl) hb pa_wa d2 d1 (he _) (hpl _ _)) ?_
  refine hs X ok σd σ H m av S _ En R (post_ok e1 fun ms H1 vs E1 R1 r1 => ?_)
  have := go ms H1 vs E1 R1 r1
  rw [hf, hx, List.append_nil] at this
  exact this
theorem se_biI {x : Str} {id : String} {p pos : Pos} {e : Expr} {es : List Expr} {xs : Exs} (f : Bi) (hf : biK f = .im x id) (hi : g.im x = some id) (h : Gb sc x) (d1 : (x == ("__debug__" : Str)) = false) (hs : SA g N sc d c (e :: es) xs)
    (he : ∀ env, starEach (e :: es) env = (false, eval e env) :: starEach es env) (hpl : ∀ pos env, (backTo pos (starEach es env)).any (·.1) = false) : SE g N sc d c (.Call (.Name x p) (e :: es) [] pos) (.bi f xs) := by
  intro X ok σd σ H m av S Q En R P
  obtain ⟨as, S1, e1, go⟩ := bi_run ok (by rintro rfl; cases hf) P
  have hx : biX f = [] := by cases f <;> first | rfl | cases hf
  refine we_of (pe_callBfun (cl_wcl (f := .builtin id)) (ok.gl h) (ok.im x id hi) pa_wa d1 (he _) (hpl _ _)) ?_
  refine hs X ok σd σ H m av S _ En R (post_ok e1 fun ms H1 vs E1 R1 r1 => ?_)
  have := go ms H1 vs E1 R1 r1
  rw [hf, hx, List.append_nil] at this
  exact this
theorem se_isi {p p2 pos : Pos} {T : String} {e : Expr} {e' : Ex} (f : Bi) (hf : biK f = .fn "isinstance" "isinstance") (hT : biX f = [.ty T]) (hb : bootBuiltins (Str.ofString T) = some (.type T)) (hl : ("isinstance" : Str) ∈ g.bl) (hl2 : Str.ofString T ∈ g.bl) (h : Gb sc "isinstance") (h2 : Gb sc (Str.ofString T))
    (d1 : (Str.ofString T == ("__debug__" : Str)) = false) (d2 : Str.ofString T ≠ "__name__") (he : SE g N sc d c e e') (hs : ∀ es env, starEach (e :: es) env = (false, eval e env) :: starEach es env) : SE g N sc d c (.Call (.Name "isinstance" p) [e, .Name (Str.ofString T) p2] [] pos) (.bi f (.cons e' .nil)) := by
  intro X ok σd σ H m av S Q En R P
  obtain ⟨as, S1, e1, go⟩ := bi_run ok (by rintro rfl; cases hf) P
  refine we_of (pe_callB (cl_wcl (f := .builtin "isinstance")) (ok.gl h) (ok.bl _ hl) (by decide +kernel) (pa_cons pe_we (pa_cons (pe_bltn (v := .ty T) (ok.gl h2) (ok.bl _ hl2) hb rfl d2 d1) pa_nil (by rfl)) (hs _ _)) (by decide) (by decide) (hs _ _) (by rfl)) ?_
  simp only [evs] at e1
  cases q : ev c e' σd S with
  | ex _ _ _ => rw [q] at e1; cases e1
  | no => rw [q] at e1; cases e1
  | ok a S2 =>
    rw [q, Pv.R.bind_ok, Pv.R.bind_ok] at e1
    simp only [Pv.R.ok.injEq] at e1
    obtain ⟨rfl, rfl⟩ := e1
    refine he X ok σd σ H m av S _ En R (post_ok q fun ms H1 v E1 R1 r1 => ?_)
    have := go ms H1 [v] E1 R1 (.cons r1 .nil)
    rw [hf, hT] at this
    exact this
theorem se_lrange {p p2 pos pos2 : Pos} {e : Expr} {e' : Ex} (hl : ("list" : Str) ∈ g.bl) (hl2 : ("range" : Str) ∈ g.bl) (h : Gb sc "list") (h2 : Gb sc "range") (he : SE g N sc d c e e') (hs : ∀ es env, starEach (e :: es) env = (false, eval e env) :: starEach es env) :
    SE g N sc d c (.Call (.Name "list" p) [.Call (.Name "range" p2) [e] [] pos2] [] pos) (.bi .listRange (.cons e' .nil)) := by
  intro X ok σd σ H m av S Q En R P
  simp only [ev, evs] at P
  cases q : ev c e' σd S with
  | ex _ _ _ => rw [q] at P; exact P.elim
  | no => rw [q] at P; exact P.elim
  | ok a S1 =>
    refine we_of (pe_listRg ok.calm (ok.gl h) (ok.bl _ hl) (prg_1 (ok.gl h2) (ok.bl _ hl2) pe_we (hs _ _)) (by rfl)) ?_
    refine he X ok σd σ H m av S _ En R (post_ok q fun ms H1 v E1 R1 r1 => ?_)
    have e1 : (ev c e' σd S).bind (fun x S1 => (Pv.R.ok [] S1 : Pv.R (List A)).bind fun xs S2 => .ok (x :: xs) S2) = .ok [a] S1 := by rw [q]; rfl
    have P1 := P.step e1 E1 R1
    obtain ⟨z, e2, P2⟩ := P1.some
    simp only [rds] at e2
    cases e3 : rd S1 a with
    | none => rw [e3] at e2; cases e2
    | some dt =>
      rw [e3] at e2
      simp only [Option.bind_some, Option.map_some] at e2
      cases dt with
      | int n =>
        simp only [biD] at e2
        split at e2
        · rename_i hn
          simp only [Option.map_some, Option.some.injEq] at e2
          subst e2
          have hv := (rd_rep R1 r1 e3).int
          subst hv
          refine ⟨n, rfl, ⟨by decide, by decide, ?_, ?_, ?_⟩, fun l hl => ?_⟩
          · omega
          · omega
          · omega
          · obtain ⟨E2, R2, nq⟩ := R1.laid (o := .lst (rgV 0 n)) hl
            refine P2.later (ms := []) E2 (by rw [List.append_nil, List.append_nil]; exact R2) ?_
            rw [List.append_nil, List.append_nil]
            refine Rep.lstH (.inl upd_same) nq ?_
            have e4 : rgV 0 n = (List.range n.toNat).map fun i : Nat => V.int (i : Int) := by
              unfold rgV
              rw [Int.sub_zero]
              exact List.map_congr_left fun i _ => by rw [Int.zero_add]
            rw [e4]
            exact rep_rngD _
        · cases e2
      | _ => simp [biD] at e2
theorem se_ix {a b : Expr} {a' b' : Ex} {p : Pos} (ha : SE g N sc d c a a') (hb : SE g N sc d c b b') (hp : PlainIx b) : SE g N sc d c (.Subscript a b p) (.ix a' b') := by
  intro X ok σd σ H m av S Q En R P
  simp only [ev] at P
  obtain ⟨x, S1, e1⟩ := P.has
  refine we_of (pe_ix ix_seq pe_we pe_we hp) ?_
  refine ha X ok σd σ H m av S _ En R (post_ok e1 fun ms H1 v E1 R1 r1 => ?_)
  have P1 := P.step e1 E1 R1
  obtain ⟨y, S2, e2⟩ := P1.has
  refine hb X ok σd σ H1 _ _ S1 _ (En.evo R E1) R1 (post_ok e2 fun ns H2 u E2 R2 r2 => ?_)
  have P2 := P1.step e2 E2 R2
  obtain ⟨z, e3, P3⟩ := P2.some
  cases e4 : rd S2 x with
  | none => rw [e4] at e3; cases e3
  | some x' =>
    rw [e4] at e3
    simp only [Option.bind_some] at e3
    cases e5 : rd S2 y with
    | none => rw [e5] at e3; cases e3
    | some y' =>
      rw [e5] at e3
      simp only [Option.bind_some] at e3
      cases e6 : ixD x' y' with
      | none => rw [e6] at e3; cases e3
      | some k =>
        rw [e6] at e3
        simp only [Option.map_some, Option.some.injEq] at e3
        subst e3
        have rx := rd_rep R2 (RepA.evo R1 E2 r1) e4
        have ry := rd_rep R2 r2 e5
        unfold ixD at e6
        split at e6
        · obtain ⟨q, vs, rfl, hq, t⟩ := rx.lst
          have hu := ry.int; subst hu
          obtain ⟨w, h1, h2⟩ := t.atI e6
          exact .inl ⟨q, vs, _, w, rfl, rfl, hq, h1, P3.now R2 h2⟩
        · obtain ⟨q, vs, rfl, hq, t⟩ := rx.tup
          have hu := ry.int; subst hu
          obtain ⟨w, h1, h2⟩ := t.atI e6
          exact .inr (.inl ⟨q, vs, _, w, rfl, rfl, hq, h1, P3.now R2 h2⟩)
        · cases e6
def wo (X : Cx) : Option Expr → TO
  | none => tNoPart
  | some e => tPart (we X e)
theorem po_wo {X : Cx} : ∀ {o : Option Expr}, PO X o (wo X o)
  | none => po_none
  | some e => po_some pe_we
def SO (g : Stat) (N : List Str) (sc : Scope) (d : Nat) (c : Cfg) (o : Option Expr) (is : Exs) : Prop := ∀ (X : Cx), XOk g N sc d c X → ∀ (σd : En) (σ : SL) (H : Hp) (m av : List Addr) (S S1 : Sto) (as : List A) (i : Option Int) (Q : Option Int → Hp → Prop), EnR X.K H m av σd σ → Rel X.K m av H S → evs c is σd S = .ok as S1 → optI as = some i →
  (∀ ms H1, Evo m H ms H1 → Rel X.K (m ++ ms) (av ++ ms) H1 S1 → Q i H1) → wo X o σ H Q
theorem so_none : SO g N sc d c none .nil := by
  intro X ok σd σ H m av S S1 as i Q En R e1 e2 q
  simp only [evs, Pv.R.ok.injEq] at e1
  obtain ⟨rfl, rfl⟩ := e1
  simp only [optI, Option.some.injEq] at e2
  subst e2
  exact q [] H Evo.refl (by rw [List.append_nil, List.append_nil]; exact R)
theorem so_some {e : Expr} {x : Ex} (he : SE g N sc d c e x) : SO g N sc d c (some e) (.cons x .nil) := by
  intro X ok σd σ H m av S S1 as i Q En R e1 e2 q
  simp only [evs] at e1
  cases w : ev c x σd S with
  | ex _ _ _ => rw [w] at e1; cases e1
  | no => rw [w] at e1; cases e1
  | ok a S2 =>
    rw [w, Pv.R.bind_ok, Pv.R.bind_ok] at e1
    simp only [Pv.R.ok.injEq] at e1
    obtain ⟨rfl, rfl⟩ := e1
    refine he X ok σd σ H m av S _ En R (post_ok w fun ms H1 v E1 R1 r1 => ?_)
    unfold optI at e2
    split at e2
    · rename_i h; cases h
    · rename_i h
      simp only [List.cons.injEq, and_true] at h
      subst h
      simp only [Option.some.injEq] at e2
      subst e2
      cases r1
      exact ⟨_, rfl, q ms H1 E1 R1⟩
    · cases e2
theorem se_slice {a : Expr} {a' : Ex} {lo hi : Option Expr} {l h : Exs} {p p2 : Pos} (ha : SE g N sc d c a a') (hl : SO g N sc d c lo l) (hh : SO g N sc d c hi h) : SE g N sc d c (.Subscript a (.Slice lo hi none p2) p) (.slice a' l h) := by
  intro X ok σd σ H m av S Q En R P
  simp only [ev] at P
  obtain ⟨x, S1, e1⟩ := P.has
  refine we_of (pe_slice sl_list pe_we po_wo po_wo) ?_
  refine ha X ok σd σ H m av S _ En R (post_ok e1 fun ms H1 v E1 R1 r1 => ?_)
  have P1 := P.step e1 E1 R1
  obtain ⟨la, S2, e2⟩ := P1.has
  cases w1 : optI la with
  | none =>
    have P2 := P1
    rw [e2, Pv.R.bind_ok] at P2
    obtain ⟨ha2, S3, e3⟩ := P2.has
    rw [e3, Pv.R.bind_ok] at P2
    obtain ⟨z, e4, _⟩ := P2.some
    cases e5 : rd S3 x with
    | none => rw [e5] at e4; cases e4
    | some x' => rw [e5, w1] at e4; simp only [Option.bind_some] at e4; cases e4
  | some li =>
    refine hl X ok σd σ H1 _ _ S1 S2 la li _ (En.evo R E1) R1 e2 w1 fun ns H2 E2 R2 => ?_
    have P2 := P1.step e2 E2 R2
    obtain ⟨hb, S3, e3⟩ := P2.has
    cases w2 : optI hb with
    | none =>
      rw [e3, Pv.R.bind_ok] at P2
      obtain ⟨z, e4, _⟩ := P2.some
      cases e5 : rd S3 x with
      | none => rw [e5] at e4; cases e4
      | some x' => rw [e5, w1, w2] at e4; simp only [Option.bind_some] at e4; cases e4
    | some hi' =>
      refine hh X ok σd σ H2 _ _ S2 S3 hb hi' _ (EnR.evo R1 E2 (En.evo R E1)) R2 e3 w2 fun ks H3 E3 R3 => ?_
      have P3 := P2.step e3 E3 R3
      obtain ⟨z, e4, P4⟩ := P3.some
      cases e5 : rd S3 x with
      | none => rw [e5] at e4; cases e4
      | some x' =>
        rw [e5, w1, w2] at e4
        simp only [Option.bind_some] at e4
        cases e6 : sliceD x' li hi' with
        | none => rw [e6] at e4; cases e4
        | some y =>
          rw [e6] at e4
          simp only [Option.map_some, Option.some.injEq] at e4
          subst e4
          have rx := rd_rep R3 (RepA.evo R2 E3 (RepA.evo R1 E2 r1)) e5
          unfold sliceD at e6
          split at e6
          · simp only [Option.some.injEq] at e6
            subst e6
            obtain ⟨q, vs, rfl, hq, t⟩ := rx.lst
            refine ⟨q, vs, rfl, hq, fun u hu => ?_⟩
            obtain ⟨E4, R4, nq⟩ := R3.laid (o := .lst (cutV vs li hi')) hu
            refine P4.later (ms := []) E4 (by rw [List.append_nil, List.append_nil]; exact R4) ?_
            rw [List.append_nil, List.append_nil]
            have t' := RepAll.evo E4 R3.sub (cut_rep t li hi')
            rw [List.append_nil] at t'
            exact Rep.lstH (.inl upd_same) nq t'
          · cases e6
end
end Pv
set_option Elab.async false
set_option maxRecDepth 100000
set_option linter.unusedVariables false
/-! Pv8: comprehensions. -/
namespace Pv
open PySem PySem.Spec PyProof.Rows L2
/-! ### what is walked: a list or a tuple -/
def iSeq (X : Cx) (it : Expr) : TI := fun σ H R => we X it σ H fun x H1 =>
  (∃ a xs, x = .ref a ∧ SqL X.K H1 a xs ∧ (xs.length ≤ sizeLine → R (Itl X.K a) H1)) ∨ (∃ a xs, x = .ref a ∧ SqT X.K H1 a xs ∧ (xs.length ≤ sizeLine → R (Itt X.K a) H1))
theorem pi_seq {X : Cx} {tg it : Expr} : PI X tg it (iSeq X it) := by
  refine ⟨fun pins s σ H R I h => ?_⟩
  refine thn (h pins s I) fun v s1 ⟨x, H1, I1, r1, q1⟩ => ?_
  rcases q1 with ⟨a, xs, e, hq, q⟩ | ⟨a, xs, e, hq, q⟩
  · subst e
    cases r1
    obtain ⟨its, rv, p, hz⟩ := I1.list hq
    refine wpAny_pyIter_list p.isList ?_
    refine ⟨s1.heap.objs.size, [s1.heap.objs.size], _, _, H1, rfl, I1.kept (t' := s1.toks) fun b o e => Heap.get?_push_of_some _ e, turn_list a _, ⟨_, Heap.get?_push_size _ rfl, rfl, rfl⟩, fun b hb => ?_, q hz⟩
    have e : b = s1.heap.objs.size := by simpa using hb
    subst e
    exact I1.fpOk (Nat.le_refl _) (I1.hok.fresh (Nat.le_refl _))
  · subst e
    cases r1
    obtain ⟨its, rv, p, hz⟩ := I1.tuple hq
    refine wpAny_pyIter_tuple (show s1.heap.IsTuple a its.toArray from p) ?_
    refine ⟨s1.heap.objs.size, [s1.heap.objs.size], _, _, H1, rfl, I1.kept (t' := s1.toks) fun b o e => Heap.get?_push_of_some _ e, turn_tuple a _, ⟨_, Heap.get?_push_size _ rfl, rfl, rfl⟩, fun b hb => ?_, q hz⟩
    have e : b = s1.heap.objs.size := by simpa using hb
    subst e
    exact I1.fpOk (Nat.le_refl _) (I1.hok.fresh (Nat.le_refl _))
/-! ### targets -/
def gNames : List Nat → TGs
  | [] => gNil
  | i :: is => gCons (gName i) (gNames is)
def tgR (K : PySem.W.Frag) : Tg → TG
  | .n i => gName i
  | .t is => gTup K is.length (gNames is)
theorem gNames_ok : ∀ {is : List Nat} {vs : List V} {σ : SL} {H : Hp} {Q : SL → Hp → Prop}, is.length = vs.length → Q ((is.zip vs).foldl (fun σ p => σ.set p.1 (some p.2)) σ) H → gNames is vs σ H Q
  | [], [], _, _, _, _, q => ⟨rfl, q⟩
  | [], _ :: _, _, _, _, h, _ => by simp at h
  | _ :: _, [], _, _, _, h, _ => by simp at h
  | i :: is, v :: vs, σ, H, Q, h, q => ⟨v, vs, rfl, gNames_ok (by simpa using h) q⟩
section
variable {K : PySem.W.Frag} {H : Hp} {m av : List Addr}
/-- a target takes data -/
theorem tg_ok {t : Tg} {x : PyData} {v : V} {σd σd' : En} {σ : SL} {Q : SL → Hp → Prop} (En : EnR K H m av σd σ) (r : Rep K H av x v) (e : setTg t x σd = some σd') (q : ∀ σ', EnR K H m av σd' σ' → (∀ own : List Nat, (slotsOf t).all (fun i => decide (i ∈ own)) = true → L2.wipe σ' own = L2.wipe σ own) → Q σ' H) :
    tgR K t v σ H Q := by
  have ws : ∀ (own : List Nat) (i : Nat) (σ : SL) (o : Option V), i ∈ own → L2.wipe (σ.set i o) own = L2.wipe σ own := by
    intro own
    induction own with
    | nil => intro i σ o h; cases h
    | cons a own ih =>
      intro i σ o h
      unfold L2.wipe
      by_cases hi : i ∈ own
      · rw [ih i σ o hi]
      · have e : i = a := by
          rcases List.mem_cons.mp h with h | h
          · exact h
          · exact absurd h hi
        subst e
        have comm : ∀ (own : List Nat) (σ : SL), i ∉ own → L2.wipe (σ.set i o) own = (L2.wipe σ own).set i o := by
          intro own
          induction own with
          | nil => intro σ _; rfl
          | cons b own ih2 =>
            intro σ hn
            unfold L2.wipe
            rw [ih2 σ (fun z => hn (List.mem_cons_of_mem _ z)), List.set_comm]
            intro z
            exact hn (by rw [z]; exact List.mem_cons_self)
        rw [comm own σ hi, List.set_set]
  cases t with
  | n i =>
    simp only [setTg, Option.some.injEq] at e
    subst e
    refine q _ (EnR.set (x := .d x) En i r) fun own h => ws own i σ _ ?_
    simpa [slotsOf] using h
  | t is =>
    cases x with
    | tuple xs =>
      simp only [setTg] at e
      split at e
      · rename_i hl
        obtain ⟨a, vs, rfl, h, t⟩ := (show RdR K H av (.tuple xs) v from .inl r).tup
        obtain ⟨σ', e1, e2⟩ := enr_setAll En t e
        refine ⟨a, vs, rfl, h, ?_, gNames_ok (by rw [hl, t.length]) ?_⟩
        · rw [← t.length, hl]
        · rw [← e2]
          refine q _ e1 fun own h => ?_
          rw [e2]
          have hal : ∀ i ∈ is, i ∈ own := by simpa [slotsOf] using h
          clear e e1 e2 h hl t r
          have key : ∀ (is : List Nat) (vs : List V) (σ : SL), (∀ i ∈ is, i ∈ own) → L2.wipe ((is.zip vs).foldl (fun σ p => σ.set p.1 (some p.2)) σ) own = L2.wipe σ own := by
            intro is
            induction is with
            | nil => intro vs σ _; rfl
            | cons i is ih =>
              intro vs σ hh
              cases vs with
              | nil => rfl
              | cons v vs =>
                simp only [List.zip_cons_cons, List.foldl_cons]
                rw [ih vs _ (fun j hj => hh j (List.mem_cons_of_mem _ hj)), ws own i σ _ (hh i List.mem_cons_self)]
          exact key is vs σ hal
      · cases e
    | _ => simp [setTg] at e
end
section
variable {g : Stat} {N : List Str} {sc : Scope} {d : Nat} {c : Cfg}
theorem pg_names {X : Cx} {scope : Scope} (hN : X.N.Nodup) (eN : X.N = N) (esc : X.env.scope = sc) (hf : ∀ x, scope.names.lookup x = some .cell → X.fn x = true) : ∀ {es : List Expr} {is : List Nat}, TrTs N sc scope es is → PGs X es (gNames is) ∧ (assignEach es X.env).length = is.length ∧ (assignEach es X.env).findIdx? (·.1) = none
  | [], _, h => by cases h; exact ⟨pgs_nil, rfl, rfl⟩
  | _ :: es, _, h => by
    cases h with
    | @cons x p _ i is h l f r =>
      obtain ⟨h1, h2, h3⟩ := pg_names hN eN esc hf r
      refine ⟨pgs_cons (pg_name hN (by rw [eN]; exact h) (by rw [esc]; exact l) (f.elim (fun z => .inl (hf _ z)) fun z => .inr (by rw [esc]; exact z))) h1 (by rfl), ?_, ?_⟩
      · show (assignEach es X.env).length + 1 = _
        rw [h2]; rfl
      · have e : assignEach (.Name x p :: es) X.env = (false, assign (.Name x p) X.env) :: assignEach es X.env := rfl
        rw [e, List.findIdx?_cons, h3]
        rfl
theorem pg_tg {X : Cx} {scope : Scope} {e : Expr} {t : Tg} (hc : X.calm = true) (hN : X.N.Nodup) (eN : X.N = N) (esc : X.env.scope = sc) (hf : ∀ x, scope.names.lookup x = some .cell → X.fn x = true) (h : TrT N sc scope e t) : PG X e (tgR X.K t) := by
  cases h with
  | n h l f => exact pg_name hN (by rw [eN]; exact h) (by rw [esc]; exact l) (f.elim (fun z => .inl (hf _ z)) fun z => .inr (by rw [esc]; exact z))
  | t h =>
    obtain ⟨h1, h2, h3⟩ := pg_names hN eN esc hf h
    exact pg_tup hc h1 h2 h3
abbrev blkX (X : Cx) (scope : Scope) (s : Shared) (H : Hp) (C : Addr) (cl : List (Str × Addr)) (fp : List Addr) : Cx := X.blk s H scope (compEnvC scope cl C X.env) fp
theorem XOk.blk {X : Cx} (ok : XOk g N sc d c X) (scope : Scope) (s : Shared) (H : Hp) (C : Addr) (cl : List (Str × Addr)) (fp : List Addr) : XOk g N (relS scope sc) d c (blkX X scope s H C cl fp) :=
  ⟨ok.N_, by show relS scope X.env.scope = _; rw [ok.sc_], ok.nd, ok.room, ok.gds, ok.calm, ok.glob, ok.bl, ok.im, ok.calls⟩
def weB (X : Cx) (scope : Scope) (e : Expr) : TE := fun σ H Q => ∀ s0 H0 C cl fp, we (blkX X scope s0 H0 C cl fp) e σ H Q
def wtB (X : Cx) (scope : Scope) (e : Expr) : TT := fun σ H Q => ∀ s0 H0 C cl fp, wt (blkX X scope s0 H0 C cl fp) e σ H Q
def wcB (X : Cx) (scope : Scope) : List Expr → TT
  | [] => tYes
  | e :: _ => wtB X scope e
theorem Evo.trans2 {M m' : List Addr} {H H1 H2 : Hp} {ms ns : List Addr} (e : Evo M H ms H1) (f : Evo m' H1 ns H2) (hm : ∀ a ∈ m', a ∈ M ∨ a ∈ ms) (live : ∀ a ∈ M, ∃ o, H1 a = some o) : Evo M H (ms ++ ns) H2 where
  keep := fun a o h n => f.keep a o (e.keep a o h n) fun z => (hm a z).elim n fun z => by rw [e.new a z] at h; cases h
  new := fun p hp => (List.mem_append.mp hp).elim (e.new p) fun z => by
    have h1 := f.new p z
    cases q : H p with
    | none => rfl
    | some o =>
      by_cases hM : p ∈ M
      · obtain ⟨u, hu⟩ := live p hM
        rw [hu] at h1; cases h1
      · rw [e.keep p o q hM] at h1; cases h1
theorem EnR.evo2 {K : PySem.W.Frag} {H H' : Hp} {M m av ms ns : List Addr} (e : Evo M H ns H') (sub : ∀ a ∈ M, a ∈ av) {σd : En} {σ : SL} (r : EnR K H m av σd σ) : EnR K H' (m ++ ms) (av ++ ns) σd σ := by
  induction r with
  | nil => exact .nil
  | @val x v σd σ h r ih =>
    refine .val ?_ ih
    cases x with
    | d x => exact Rep.evo e sub h
    | ref i =>
      obtain ⟨a, h1, h2⟩ := h
      refine ⟨a, ?_, h2⟩
      rw [List.getElem?_append_left (List.getElem?_eq_some_iff.mp h1).1]
      exact h1
  | emp r ih => exact .emp ih

/-- the state of a comprehension at a turn -/
structure LcSt (K : PySem.W.Frag) (m av : List Addr) (D : Addr) (H0 : Hp) (f : PyData → Sto → R (Option PyData)) (xs : List PyData) (Se : Sto) (all : List PyData) (i : Nat) (H' : Hp) : Prop where
  ex : ∃ (ms : List Addr) (S' : Sto) (ys : List PyData) (acc : List V) (rest : List PyData), Evo (m ++ [D]) H0 ms H' ∧ Rel K (m ++ ms) (av ++ ms) H' S' ∧ H' D = some (.lst acc) ∧ RepAll K H' (av ++ ms) ys acc ∧
    lcGo f (xs.drop i) S' = .ok rest Se ∧ ys ++ rest = all ∧ ys.length ≤ i

theorem keepD_ok {r : R A} {o : Option PyData} {S : Sto} (h : keepD r = .ok o S) : ∃ y, r = .ok (.d y) S ∧ o = some y := by
  unfold keepD at h
  cases r with
  | ok a T =>
    rw [Pv.R.bind_ok] at h
    cases a with
    | d y =>
      simp only [Pv.R.ok.injEq] at h
      exact ⟨y, by rw [h.2], h.1.symm⟩
    | ref _ => cases h
  | ex _ _ _ => cases h
  | no => cases h
/-- one turn of a comprehension: its tests, its element -/
theorem lc_turn {X : Cx} (ok : XOk g N sc d c X) {scope : Scope} {e : Expr} {e' : Ex} {cs : List Expr} {cs' : Exs} (he : SE g N (relS scope sc) d c e e')
    (hc : (cs = [] ∧ cs' = .nil) ∨ ∃ q q', cs = [q] ∧ cs' = .cons q' .nil ∧ ST g N (relS scope sc) d c q q')
    {m av : List Addr} {D : Addr} {H0 H' : Hp} {f : PyData → Sto → R (Option PyData)} {xs : List PyData} {Se : Sto} {all : List PyData} {i : Nat} {σd' : En} {σ' : SL} {ms : List Addr} {S' S2 : Sto} {ys : List PyData} {acc : List V} {rest : List PyData} {y : Option PyData}
    (hm : ∀ a ∈ m, a ∈ av) (hD : D ∈ av) (ev0 : Evo (m ++ [D]) H0 ms H') (Rl : Rel X.K (m ++ ms) (av ++ ms) H' S') (hDm : D ∉ m ++ ms) (hacc : H' D = some (.lst acc)) (ra : RepAll X.K H' (av ++ ms) ys acc) (En : EnR X.K H' (m ++ ms) (av ++ ms) σd' σ')
    (h1 : lcOne (evs c cs' σd' S') (fun S1 => ev c e' σd' S1) = .ok y S2) (h2 : lcGo f (xs.drop (i + 1)) S2 = .ok rest Se) (h3 : ys ++ consO y rest = all) (h4 : ys.length ≤ i) (h5 : i < sizeLine) :
    wcB X scope cs σ' H' fun b H3 => if b = true then weB X scope e σ' H3 fun z H4 => ∃ acc, H4 D = some (.lst acc) ∧ acc.length < sizeLine ∧ LcSt X.K m av D H0 f xs Se all (i + 1) (upd H4 D (.lst (acc ++ [z]))) else LcSt X.K m av D H0 f xs Se all (i + 1) H3 := by
  have live0 : ∀ {H1 : Hp} {ns : List Addr} {T : Sto}, Rel X.K (m ++ ns) (av ++ ns) H1 T → ∀ a ∈ m ++ [D], ∃ o, H1 a = some o := fun {H1 ns T} r a ha => by
    rcases List.mem_append.mp ha with z | z
    · exact r.live a (List.mem_append_left _ (hm a z))
    · rw [List.mem_singleton.mp z]; exact r.live D (List.mem_append_left _ hD)
  -- the element, from a state behind the tests
  have elt : ∀ (ns : List Addr) (H3 : Hp) (T : Sto), Evo (m ++ ms) H' ns H3 → Rel X.K ((m ++ ms) ++ ns) ((av ++ ms) ++ ns) H3 T → keepD (ev c e' σd' T) = .ok y S2 →
      weB X scope e σ' H3 fun z H4 => ∃ acc, H4 D = some (.lst acc) ∧ acc.length < sizeLine ∧ LcSt X.K m av D H0 f xs Se all (i + 1) (upd H4 D (.lst (acc ++ [z]))) := by
    intro ns H3 T E3 R3 hk s0 H00 C cl fp
    obtain ⟨y', k1, k2⟩ := keepD_ok hk
    subst k2
    have En3 := En.evo Rl E3
    refine he (blkX X scope s0 H00 C cl fp) (ok.blk scope s0 H00 C cl fp) σd' σ' H3 _ _ T _ En3 R3 (post_ok k1 fun ks H4 z E4 R4 r4 => ?_)
    have hD3 : H3 D = some (.lst acc) := E3.keep D _ hacc hDm
    have hDn : D ∉ (m ++ ms) ++ ns := fun z => (List.mem_append.mp z).elim hDm fun z => by rw [E3.new D z] at hacc; cases hacc
    have hD4 : H4 D = some (.lst acc) := E4.keep D _ hD3 hDn
    have hDk : D ∉ ((m ++ ms) ++ ns) ++ ks := fun z => (List.mem_append.mp z).elim hDn fun z => by rw [E4.new D z] at hD3; cases hD3
    have hDa : D ∈ (av ++ ms) ++ ns ++ ks := List.mem_append_left _ (List.mem_append_left _ (List.mem_append_left _ hD))
    refine ⟨acc, hD4, ?_, ⟨ms ++ ns ++ ks, S2, ys ++ [y'], acc ++ [z], rest, ?_, ?_, upd_same, ?_, h2, by simpa [consO] using h3, by simpa using h4⟩⟩
    · rw [← ra.length]; omega
    all_goals (have w : Evo ((m ++ ms) ++ ns ++ ks ++ [D]) H4 [] (upd H4 D (.lst (acc ++ [z]))) := ⟨fun a o h n => by rw [upd_ne (fun q => n (by rw [q]; exact List.mem_append_right _ (List.mem_singleton.mpr rfl)))]; exact h, fun _ h => nomatch h⟩)
    · have e1 : Evo (m ++ [D]) H0 (ms ++ ns) H3 := Evo.trans2 ev0 E3 (fun a ha => (List.mem_append.mp ha).elim (fun z => .inl (List.mem_append_left _ z)) .inr) (live0 Rl)
      have R3' : Rel X.K (m ++ (ms ++ ns)) (av ++ (ms ++ ns)) H3 T := by rw [← List.append_assoc, ← List.append_assoc]; exact R3
      have e2 : Evo (m ++ [D]) H0 (ms ++ ns ++ ks) H4 := Evo.trans2 e1 E4 (fun a ha => by
        rw [List.append_assoc] at ha
        exact (List.mem_append.mp ha).elim (fun z => .inl (List.mem_append_left _ z)) .inr) (live0 R3')
      have R4' : Rel X.K (m ++ (ms ++ ns ++ ks)) (av ++ (ms ++ ns ++ ks)) H4 S2 := by rw [← List.append_assoc, ← List.append_assoc, ← List.append_assoc, ← List.append_assoc]; exact R4
      have e3 := Evo.trans2 e2 w (fun a ha => by
        rcases List.mem_append.mp ha with z | z
        · rw [List.append_assoc, List.append_assoc] at z
          rw [List.append_assoc]
          exact (List.mem_append.mp z).elim (fun z => .inl (List.mem_append_left _ z)) .inr
        · exact .inl (List.mem_append_right _ z)) (live0 R4')
      rwa [List.append_nil] at e3
    · rw [← List.append_assoc, ← List.append_assoc, ← List.append_assoc, ← List.append_assoc]
      refine ⟨R4.sub, fun a ha => ?_, R4.nd, ?_⟩
      · by_cases z : a = D
        · rw [z]; exact ⟨_, upd_same⟩
        · obtain ⟨o, ho⟩ := R4.live a ha
          exact ⟨o, by rw [upd_ne z]; exact ho⟩
      · refine R4.sto.imp fun q a ha x => ?_
        cases q with
        | lst es =>
          obtain ⟨ws, g1, g2⟩ := x
          have na : a ≠ D := fun z => hDk (z ▸ ha)
          refine ⟨ws, by rw [upd_ne na]; exact g1, ?_⟩
          have t' := RepAll.evo w (fun b hb => by
            rcases List.mem_append.mp hb with z | z
            · exact R4.sub b z
            · rw [List.mem_singleton.mp z]; exact hDa) g2
          rwa [List.append_nil] at t'
    · have sub : ∀ b ∈ (m ++ ms) ++ ns ++ ks ++ [D], b ∈ (av ++ ms) ++ ns ++ ks := fun b hb => by
        rcases List.mem_append.mp hb with z | z
        · exact R4.sub b z
        · rw [List.mem_singleton.mp z]; exact hDa
      rw [← List.append_assoc, ← List.append_assoc]
      have t1 := RepAll.evo E4 R3.sub (RepAll.evo E3 Rl.sub ra)
      have t2 := RepAll.evo w sub t1
      have t3 := Rep.evo w sub r4
      rw [List.append_nil] at t2 t3
      exact t2.append (.cons t3 .nil)
  have hx : (lcOne (evs c cs' σd' S') (fun S1 => ev c e' σd' S1)) = .ok y S2 := h1
  unfold lcOne at hx
  rcases hc with ⟨rfl, rfl⟩ | ⟨q, q', rfl, rfl, hq⟩
  · simp only [evs, Pv.R.bind_ok] at hx
    have hk : keepD (ev c e' σd' S') = .ok y S2 := by
      cases w : keepD (ev c e' σd' S') with
      | ok a T => rw [w] at hx; exact hx
      | ex _ _ _ => rw [w] at hx; cases hx
      | no => rw [w] at hx; cases hx
    have z := elt [] H' S' Evo.refl (by rw [List.append_nil, List.append_nil]; exact Rl) hk
    simp only [wcB, tYes, if_true]
    exact z
  · simp only [evs] at hx
    cases w : ev c q' σd' S' with
    | ex _ _ _ => rw [w] at hx; cases hx
    | no => rw [w] at hx; cases hx
    | ok b T =>
      rw [w] at hx
      simp only [Pv.R.bind_ok] at hx
      intro s0 H00 C cl fp
      cases w2 : (rd T b).bind truthD with
      | none => rw [w2] at hx; cases hx
      | some k =>
        refine hq (blkX X scope s0 H00 C cl fp) (ok.blk scope s0 H00 C cl fp) σd' σ' H' _ _ S' _ En Rl (post_ok (tst_eq w w2) fun ns H3 v E3 R3 r3 => ?_)
        have r3' : v = k := r3
        subst r3'
        cases v with
        | true =>
          rw [w2] at hx
          have hk : keepD (ev c e' σd' T) = .ok y S2 := by
            cases w : keepD (ev c e' σd' T) with
            | ok a T => simp only [w] at hx; exact hx
            | ex _ _ _ => simp only [w] at hx; cases hx
            | no => simp only [w] at hx; cases hx
          rw [if_pos rfl]
          exact elt ns H3 T E3 R3 hk
        | false =>
          rw [w2] at hx
          simp only [Pv.R.calm, Pv.R.ok.injEq] at hx
          obtain ⟨rfl, rfl⟩ := hx
          rw [if_neg Bool.false_ne_true]
          refine ⟨ms ++ ns, T, ys, acc, rest, Evo.trans2 ev0 E3 (fun a ha => (List.mem_append.mp ha).elim (fun z => .inl (List.mem_append_left _ z)) .inr) (live0 Rl), ?_, E3.keep D _ hacc hDm, ?_, h2, h3, by omega⟩
          · rw [← List.append_assoc, ← List.append_assoc]; exact R3
          · rw [← List.append_assoc]; exact RepAll.evo E3 Rl.sub ra
theorem Rel.laidA {K : PySem.W.Frag} {m av : List Addr} {H : Hp} {S : Sto} {p : Addr} {o : HO} (R : Rel K m av H S) (hp : H p = none) : Evo m H [p] (upd H p o) ∧ Rel K m (av ++ [p]) (upd H p o) S := by
  have e : Evo m H [p] (upd H p o) := ⟨fun a u h _ => by rw [upd_ne (ne_of_none h hp)]; exact h, fun q h => by rw [List.mem_singleton.mp h]; exact hp⟩
  refine ⟨e, ⟨fun a ha => List.mem_append_left _ (R.sub a ha), fun a ha => ?_, R.nd, ?_⟩⟩
  · rcases List.mem_append.mp ha with z | z
    · obtain ⟨u, hu⟩ := R.live a z
      exact ⟨u, by rw [upd_ne (ne_of_none hu hp)]; exact hu⟩
    · rw [List.mem_singleton.mp z]; exact ⟨_, upd_same⟩
  · refine R.sto.imp fun q a ha x => ?_
    cases q with
    | lst ds =>
      obtain ⟨vs, h1, h2⟩ := x
      exact ⟨vs, by rw [upd_ne (ne_of_none h1 hp)]; exact h1, RepAll.evo e R.sub h2⟩
theorem lcGo_cons {f : PyData → Sto → R (Option PyData)} {x : PyData} {xs ys : List PyData} {S S2 : Sto} (h : lcGo f (x :: xs) S = .ok ys S2) : ∃ y S1 rest, f x S = .ok y S1 ∧ lcGo f xs S1 = .ok rest S2 ∧ ys = consO y rest := by
  simp only [lcGo] at h
  cases q : f x S with
  | ex _ _ _ => rw [q] at h; cases h
  | no => rw [q] at h; cases h
  | ok y S1 =>
    rw [q, Pv.R.bind_ok] at h
    cases q2 : lcGo f xs S1 with
    | ex _ _ _ => rw [q2] at h; cases h
    | no => rw [q2] at h; cases h
    | ok rest T =>
      rw [q2, Pv.R.bind_ok] at h
      simp only [Pv.R.ok.injEq] at h
      exact ⟨y, S1, rest, rfl, by rw [q2, h.2], h.1.symm⟩
/-- the end of a comprehension: the list that was made -/
theorem lc_end {K : PySem.W.Frag} {m av : List Addr} {D : Addr} {H1 : Hp} {f : PyData → Sto → R (Option PyData)} {xs : List PyData} {S1 Se : Sto} {all : List PyData} {H' : Hp} (R1 : Rel K m av H1 S1) (hD : H1 D = none)
    (h : LcSt K m (av ++ [D]) D (upd H1 D (.lst [])) f xs Se all xs.length H') : ∃ ms, Evo m H1 ms H' ∧ Rel K (m ++ ms) (av ++ ms) H' Se ∧ Rep K H' (av ++ ms) (.list all) (.ref D) := by
  obtain ⟨ms, S', ys, acc, rest, e, R', hacc, ra, hg, hall, hl⟩ := h.ex
  rw [List.drop_length] at hg
  simp only [lcGo, Pv.R.ok.injEq] at hg
  obtain ⟨rfl, rfl⟩ := hg
  rw [List.append_nil] at hall
  subst hall
  have nm : D ∉ m := fun z => by
    obtain ⟨u, hu⟩ := R1.live D (R1.sub D z)
    rw [hD] at hu; cases hu
  have nms : D ∉ ms := fun z => by
    have := e.new D z
    rw [upd_same] at this; cases this
  have nav : D ∉ av := fun z => by
    obtain ⟨u, hu⟩ := R1.live D z
    rw [hD] at hu; cases hu
  have sub : ∀ a ∈ av ++ ms, a ∈ av ++ [D] ++ ms := fun a ha => (List.mem_append.mp ha).elim (fun z => List.mem_append_left _ (List.mem_append_left _ z)) fun z => List.mem_append_right _ z
  refine ⟨ms, ⟨fun a o ha n => ?_, fun p hp => ?_⟩, ⟨fun a ha => ?_, fun a ha => R'.live a (sub a ha), R'.nd, R'.sto.imp fun q a ha x => ?_⟩, ?_⟩
  · have na : a ≠ D := ne_of_none ha hD
    exact e.keep a o (by rw [upd_ne na]; exact ha) fun z => (List.mem_append.mp z).elim n fun z => na (List.mem_singleton.mp z)
  · have := e.new p hp
    have np : p ≠ D := fun z => nms (z ▸ hp)
    rwa [upd_ne np] at this
  · rcases List.mem_append.mp ha with z | z
    · exact List.mem_append_left _ (R1.sub a z)
    · exact List.mem_append_right _ z
  · cases q with
    | lst es =>
      obtain ⟨ws, g1, g2⟩ := x
      exact ⟨ws, g1, RepAll.less sub g2⟩
  · exact Rep.lstH (.inl hacc) (fun z => (List.mem_append.mp z).elim nav nms) (RepAll.less sub ra)
/-- the comprehension, whatever it walks -/
theorem lc_common {X : Cx} (ok : XOk g N sc d c X) {scope : Scope} {e : Expr} {e' : Ex} {cs : List Expr} {cs' : Exs} {t : Tg} {own : List Nat} (he : SE g N (relS scope sc) d c e e')
    (hc : (cs = [] ∧ cs' = .nil) ∨ ∃ q q', cs = [q] ∧ cs' = .cons q' .nil ∧ ST g N (relS scope sc) d c q q') (hin : (slotsOf t).all (fun i => decide (i ∈ own)) = true)
    {σd : En} {σ : SL} {H1 : Hp} {m av : List Addr} {S1 S2 : Sto} {xs ys : List PyData} {D : Addr} (En1 : EnR X.K H1 m av σd σ) (R1 : Rel X.K m av H1 S1) (hD : H1 D = none) (hz : xs.length ≤ sizeLine)
    (hgo : lcGo (fun y S => match setTg t y (wipeD σd own) with | some σ' => lcOne (evs c cs' σ' S) fun S1 => ev c e' σ' S1 | none => .no) xs S1 = .ok ys S2) :
    LcSt X.K m (av ++ [D]) D (upd H1 D (.lst [])) (fun y S => match setTg t y (wipeD σd own) with | some σ' => lcOne (evs c cs' σ' S) fun S1 => ev c e' σ' S1 | none => .no) xs S2 ys 0 (upd H1 D (.lst [])) ∧
    ∀ i x v H', xs[i]? = some x → LcSt X.K m (av ++ [D]) D (upd H1 D (.lst [])) (fun y S => match setTg t y (wipeD σd own) with | some σ' => lcOne (evs c cs' σ' S) fun S1 => ev c e' σ' S1 | none => .no) xs S2 ys i H' →
      (∀ ms, Evo (m ++ [D]) (upd H1 D (.lst [])) ms H' → Rep X.K H' (av ++ [D] ++ ms) x v) →
      tgR X.K t v (L2.wipe σ own) H' fun σ2 H2 => L2.wipe σ2 own = L2.wipe σ own ∧ wcB X scope cs σ2 H2 fun b H3 =>
        if b = true then weB X scope e σ2 H3 fun z H4 => ∃ acc, H4 D = some (.lst acc) ∧ acc.length < sizeLine ∧ LcSt X.K m (av ++ [D]) D (upd H1 D (.lst [])) (fun y S => match setTg t y (wipeD σd own) with | some σ' => lcOne (evs c cs' σ' S) fun S1 => ev c e' σ' S1 | none => .no) xs S2 ys (i + 1) (upd H4 D (.lst (acc ++ [z])))
        else LcSt X.K m (av ++ [D]) D (upd H1 D (.lst [])) (fun y S => match setTg t y (wipeD σd own) with | some σ' => lcOne (evs c cs' σ' S) fun S1 => ev c e' σ' S1 | none => .no) xs S2 ys (i + 1) H3 := by
  obtain ⟨E0, R0⟩ := R1.laidA (o := .lst []) hD
  refine ⟨⟨[], S1, [], [], ys, Evo.refl, by rw [List.append_nil, List.append_nil]; exact R0, upd_same, .nil, hgo, rfl, Nat.le_refl _⟩, fun i x v H' hx st rx => ?_⟩
  obtain ⟨ms, S', acc0, acc, rest, e0, Rl, hacc, ra, hg, hall, hl⟩ := st.ex
  have hdrop : xs.drop i = x :: xs.drop (i + 1) := by
    obtain ⟨h1, h2⟩ := List.getElem?_eq_some_iff.mp hx
    rw [List.drop_eq_getElem_cons h1, h2]
  rw [hdrop] at hg
  obtain ⟨y, T, rest', k1, k2, k3⟩ := lcGo_cons hg
  have subM : ∀ a ∈ m ++ [D], a ∈ av ++ [D] := fun a ha => (List.mem_append.mp ha).elim (fun z => List.mem_append_left _ (R1.sub a z)) fun z => List.mem_append_right _ z
  have En0 : EnR X.K (upd H1 D (.lst [])) m (av ++ [D]) σd σ := by
    have := EnR.evo2 (m := m) (ms := []) E0 R1.sub En1
    rwa [List.append_nil] at this
  have En2 := (EnR.evo2 (m := m) (ms := ms) e0 subM En0).wipe own
  cases q : setTg t x (wipeD σd own) with
  | none => rw [q] at k1; cases k1
  | some σd' =>
    rw [q] at k1
    refine tg_ok En2 (rx ms e0) q fun σ' En' hw => ?_
    have ww : ∀ (own : List Nat) (σ : SL), L2.wipe (L2.wipe σ own) own = L2.wipe σ own := by
      have key : ∀ (own own2 : List Nat) (σ : SL), (∀ i ∈ own, i ∈ own2) → ∀ j : Nat, j ∈ own → (L2.wipe σ own)[j]? = (L2.wipe σ own)[j]? := fun _ _ _ _ _ _ => rfl
      intro own σ
      have get : ∀ (own : List Nat) (σ : SL) (j : Nat), (L2.wipe σ own)[j]? = if j ∈ own then (σ[j]?.map fun _ => none) else σ[j]? := by
        intro own
        induction own with
        | nil => intro σ j; simp [L2.wipe]
        | cons a own ih =>
          intro σ j
          unfold L2.wipe
          rw [List.getElem?_set]
          by_cases ha : a = j
          · subst ha
            rw [if_pos rfl, if_pos List.mem_cons_self]
            by_cases hlt : a < σ.length
            · rw [if_pos (by rw [L2.wipe_length]; exact hlt)]
              rw [List.getElem?_eq_getElem hlt]; rfl
            · rw [if_neg (by rw [L2.wipe_length]; exact hlt)]
              rw [List.getElem?_eq_none (Nat.le_of_not_lt hlt)]; rfl
          · rw [if_neg ha, ih]
            by_cases hj : j ∈ own
            · rw [if_pos hj, if_pos (List.mem_cons_of_mem _ hj)]
            · rw [if_neg hj, if_neg (fun z => (List.mem_cons.mp z).elim (fun z => ha z.symm) hj)]
      apply List.ext_getElem?
      intro j
      rw [get, get]
      by_cases hj : j ∈ own
      · rw [if_pos hj, if_pos hj]
        cases σ[j]? <;> rfl
      · rw [if_neg hj, if_neg hj]
    refine ⟨by rw [hw own hin, ww], ?_⟩
    have hDm : D ∉ m ++ ms := fun z => by
      rcases List.mem_append.mp z with z | z
      · obtain ⟨u, hu⟩ := R1.live D (R1.sub D z)
        rw [hD] at hu; cases hu
      · have := e0.new D z
        rw [upd_same] at this; cases this
    refine lc_turn ok he hc (fun a ha => List.mem_append_left _ (R1.sub a ha)) (List.mem_append_right _ (List.mem_singleton.mpr rfl)) e0 Rl hDm hacc ra En' k1 k2 (by rw [← hall, k3]) hl ?_
    have := (List.getElem?_eq_some_iff.mp hx).1
    omega
/-- the tests of a comprehension -/
theorem pts_wcB {X : Cx} {scope : Scope} {cs : List Expr} (h : cs.length ≤ 1) (s0 : Shared) (H0 : Hp) (C : Addr) (cl : List (Str × Addr)) (fp : List Addr) : PTs (blkX X scope s0 H0 C cl fp) cs (wcB X scope cs) := by
  match cs, h with
  | [], _ => exact pts_nil
  | [q], _ => exact pts_one ⟨fun pins s σ H Q I h => h s0 H0 C cl fp pins s I⟩
theorem itemsOf_cases {x : PyData} {xs : List PyData} (h : itemsOf x = some xs) : x = .list xs ∨ x = .tuple xs := by
  unfold itemsOf at h
  split at h
  · simp only [Option.some.injEq] at h; subst h; exact .inl rfl
  · simp only [Option.some.injEq] at h; subst h; exact .inr rfl
  · cases h
theorem Evo.trans3 {K : PySem.W.Frag} {m av ms ns : List Addr} {H H1 H2 : Hp} {S : Sto} (R : Rel K (m ++ ms) (av ++ ms) H1 S) (e : Evo m H ms H1) (f : Evo (m ++ ms) H1 ns H2) : Evo m H (ms ++ ns) H2 := Evo.trans R e f
theorem Rep.lstS {K : PySem.W.Frag} {H : Hp} {av : List Addr} {ds : List PyData} {v : V} (r : Rep K H av (.list ds) v) : ∃ a vs, v = .ref a ∧ SqL K H a vs ∧ RepAll K H av ds vs ∧ ∀ H' : Hp, (a ∉ av → ∀ o, H a = some o → H' a = some o) → SqL K H' a vs := by
  cases r with
  | lstH h n t =>
    refine ⟨_, _, rfl, .inl h, t, fun H' k => ?_⟩
    rcases h with h | ⟨o, h⟩
    · exact .inl (.inl (k n _ h))
    · exact .inl (.inr ⟨o, k n _ h⟩)
  | lstK h t => exact ⟨_, _, rfl, .inr h, t, fun H' k => .inr h⟩
theorem Rep.tupS {K : PySem.W.Frag} {H : Hp} {av : List Addr} {ds : List PyData} {v : V} (r : Rep K H av (.tuple ds) v) : ∃ a vs, v = .ref a ∧ SqT K H a vs ∧ RepAll K H av ds vs ∧ ∀ H' : Hp, (a ∉ av → ∀ o, H a = some o → H' a = some o) → SqT K H' a vs := by
  cases r with
  | tupH h n t =>
    refine ⟨_, _, rfl, .inl h, t, fun H' k => ?_⟩
    rcases h with h | ⟨o, h⟩
    · exact .inl (.inl (k n _ h))
    · exact .inl (.inr ⟨o, k n _ h⟩)
  | tupK h t => exact ⟨_, _, rfl, .inr h, t, fun H' k => .inr h⟩
theorem LcSt.keep {K : PySem.W.Frag} {m av : List Addr} {D : Addr} {H1 : Hp} {f : PyData → Sto → R (Option PyData)} {xs : List PyData} {S1 Se : Sto} {all : List PyData} {i : Nat} {H' : Hp} (R1 : Rel K m av H1 S1) (hD : H1 D = none)
    (st : LcSt K m (av ++ [D]) D (upd H1 D (.lst [])) f xs Se all i H') {a : Addr} (n : a ∉ av) {o : HO} (h : H1 a = some o) : H' a = some o := by
  obtain ⟨ns, _, _, _, _, e0, _⟩ := st.ex
  have na : a ≠ D := ne_of_none h hD
  exact e0.keep a _ (by rw [upd_ne na]; exact h) fun z => (List.mem_append.mp z).elim (fun z => n (R1.sub a z)) fun z => na (List.mem_singleton.mp z)
theorem lc_read {X : Cx} (ok : XOk g N sc d c X) {scope : Scope} {it e : Expr} {it' e' : Ex} {cs : List Expr} {cs' : Exs} {t : Tg} {own : List Nat} (hi : SE g N sc d c it it') (he : SE g N (relS scope sc) d c e e')
    (hc : (cs = [] ∧ cs' = .nil) ∨ ∃ q q', cs = [q] ∧ cs' = .cons q' .nil ∧ ST g N (relS scope sc) d c q q') (hin : (slotsOf t).all (fun i => decide (i ∈ own)) = true)
    {σd : En} {σ : SL} {H : Hp} {m av : List Addr} {S : Sto} {Q : VK} (En : EnR X.K H m av σd σ) (R : Rel X.K m av H S) (P : PostA X.K m av H (ev c (.lc t own it' e' cs') σd S) Q) :
    tLc (iSeq X it) (tgR X.K t) (wcB X scope cs) (weB X scope e) own σ H Q := by
  simp only [ev] at P
  obtain ⟨x, S1, e1⟩ := P.has
  refine hi X ok σd σ H m av S _ En R (post_ok e1 fun ms H1 v E1 R1 r1 => ?_)
  have P1 := P.step e1 E1 R1
  cases x with
  | ref _ => exact P1.elim
  | d x =>
    cases w : itemsOf x with
    | none => simp only [w] at P1; exact P1.elim
    | some xs =>
      simp only [w] at P1
      obtain ⟨ys, S2, e2⟩ := P1.has
      rw [e2, Pv.R.bind_ok] at P1
      have En1 := En.evo R E1
      have fin : ∀ D H', H1 D = none → LcSt X.K (m ++ ms) ((av ++ ms) ++ [D]) D (upd H1 D (.lst [])) (fun y S => match setTg t y (wipeD σd own) with | some σ' => lcOne (evs c cs' σ' S) fun S1 => ev c e' σ' S1 | none => .no) xs S2 ys xs.length H' → Q (.ref D) H' := fun D H' hD st => by
        obtain ⟨ns, k1, k2, k3⟩ := lc_end R1 hD st
        exact P1.later k1 k2 k3
      rcases itemsOf_cases w with rfl | rfl
      · obtain ⟨a, vs, rfl, hq, tr, kp⟩ := Rep.lstS r1
        refine .inl ⟨a, vs, rfl, hq, fun hz D hD => ?_⟩
        obtain ⟨b0, turn⟩ := lc_common ok he hc hin En1 R1 hD (by rw [tr.length]; exact hz) e2
        exact lc_list (K := X.K) (a := a) (xs := vs) (fun i H' => LcSt X.K (m ++ ms) ((av ++ ms) ++ [D]) D (upd H1 D (.lst [])) (fun y S => match setTg t y (wipeD σd own) with | some σ' => lcOne (evs c cs' σ' S) fun S1 => ev c e' σ' S1 | none => .no) xs S2 ys i H')
          b0 (fun i H' _ st => kp H' fun n o h => st.keep R1 hD n h) (fun i v H' hv st => by
            obtain ⟨x, hx, rx⟩ := tr.get' hv
            refine turn i x v H' hx st fun ns e0 => ?_
            obtain ⟨E0, R0⟩ := R1.laidA (o := .lst []) hD
            have rx0 := Rep.evo E0 R1.sub rx
            exact Rep.evo e0 (fun a ha => (List.mem_append.mp ha).elim (fun z => List.mem_append_left _ (R1.sub a z)) fun z => List.mem_append_right _ z) rx0) (fun H' st => fin D H' hD (by rw [← tr.length] at st; exact st))
      · obtain ⟨a, vs, rfl, hq, tr, kp⟩ := Rep.tupS r1
        refine .inr ⟨a, vs, rfl, hq, fun hz D hD => ?_⟩
        obtain ⟨b0, turn⟩ := lc_common ok he hc hin En1 R1 hD (by rw [tr.length]; exact hz) e2
        exact lc_tup (K := X.K) (a := a) (xs := vs) (fun i H' => LcSt X.K (m ++ ms) ((av ++ ms) ++ [D]) D (upd H1 D (.lst [])) (fun y S => match setTg t y (wipeD σd own) with | some σ' => lcOne (evs c cs' σ' S) fun S1 => ev c e' σ' S1 | none => .no) xs S2 ys i H')
          b0 (fun i H' _ st => kp H' fun n o h => st.keep R1 hD n h) (fun i v H' hv st => by
            obtain ⟨x, hx, rx⟩ := tr.get' hv
            refine turn i x v H' hx st fun ns e0 => ?_
            obtain ⟨E0, R0⟩ := R1.laidA (o := .lst []) hD
            have rx0 := Rep.evo E0 R1.sub rx
            exact Rep.evo e0 (fun a ha => (List.mem_append.mp ha).elim (fun z => List.mem_append_left _ (R1.sub a z)) fun z => List.mem_append_right _ z) rx0) (fun H' st => fin D H' hD (by rw [← tr.length] at st; exact st))
theorem pg_blk {X : Cx} (ok : XOk g N sc d c X) {scope : Scope} {tg : Expr} {t : Tg} (ht : TrT N (relS scope sc) scope tg t) (s0 : Shared) (H0 : Hp) (C : Addr) (cl : List (Str × Addr)) (fp : List Addr) : PG (blkX X scope s0 H0 C cl fp) tg (tgR X.K t) := by
  refine pg_tg (X := blkX X scope s0 H0 C cl fp) (scope := scope) ok.calm (by show X.N.Nodup; rw [ok.N_]; exact ok.nd) ok.N_ (by show relS scope X.env.scope = _; rw [ok.sc_]) (fun y hy => ?_) ht
  show (scope.names.lookup y == some NameKind.cell) = true
  rw [hy]; rfl
theorem se_lc {scope : Scope} {tg it e : Expr} {it' e' : Ex} {cs : List Expr} {cs' : Exs} {t : Tg} {p : Pos} (own : List (Str × Nat)) (hb : blkC N sc scope own = true) (ht : TrT N (relS scope sc) scope tg t) (hi : SE g N sc d c it it') (he : SE g N (relS scope sc) d c e e')
    (hc : (cs = [] ∧ cs' = .nil) ∨ ∃ q q', cs = [q] ∧ cs' = .cons q' .nil ∧ ST g N (relS scope sc) d c q q') (h1 : cs.length ≤ 1) (hin : (slotsOf t).all (fun i => decide (i ∈ own.map (·.2))) = true) (hfo : ∀ env v, foldedSetIterable it env v = pure v) :
    SE g N sc d c (.ListComp e [⟨tg, it, cs, 0⟩] scope p) (.lc t (own.map (·.2)) it' e' cs') := by
  intro X ok σd σ H m av S Q En R P
  have hblk : BlkOk X.N X.env.scope scope own := by rw [ok.N_, ok.sc_]; exact blkOk_by hb
  exact we_of (pe_lc (wi := iSeq X it) (g := tgR X.K t) (tt := wcB X scope cs) (te := weB X scope e) ok.calm (by rw [ok.N_]; exact ok.nd) pi_seq hblk
    (pg_blk ok ht) (fun s0 H0 C cl fp => pts_wcB h1 s0 H0 C cl fp) (fun s0 H0 C cl fp => ⟨fun pins s σ H Q I h => h s0 H0 C cl fp pins s I⟩) (hfo _)) (lc_read ok hi he hc hin En R P)
theorem rngD_get {n i : Nat} (h : i < n) : (rngD n)[i]? = some (.int (i : Int)) := by
  unfold rngD
  rw [List.getElem?_map, List.getElem?_range h]; rfl
theorem rngD_len (n : Nat) : (rngD n).length = n := by unfold rngD; rw [List.length_map, List.length_range]
theorem lcR_read {X : Cx} (ok : XOk g N sc d c X) {scope : Scope} {n e : Expr} {n' e' : Ex} {i : Nat} {cs : List Expr} {cs' : Exs} {own : List Nat} (hn : SE g N sc d c n n') (he : SE g N (relS scope sc) d c e e')
    (hc : (cs = [] ∧ cs' = .nil) ∨ ∃ q q', cs = [q] ∧ cs' = .cons q' .nil ∧ ST g N (relS scope sc) d c q q') (hin : i ∈ own)
    {σd : En} {σ : SL} {H : Hp} {m av : List Addr} {S : Sto} {Q : VK} (En : EnR X.K H m av σd σ) (R : Rel X.K m av H S) (P : PostA X.K m av H (ev c (.lcR i own n' e' cs') σd S) Q) :
    tLc (iRng1 (tCons (we X n) tNil)) (tgR X.K (.n i)) (wcB X scope cs) (weB X scope e) own σ H Q := by
  simp only [ev] at P
  obtain ⟨x', S1, e1⟩ := P.has
  refine hn X ok σd σ H m av S _ En R (post_ok e1 fun ms H1 v E1 R1 r1 => ?_)
  have P1 := P.step e1 E1 R1
  split at P1
  · rename_i j
    split at P1
    · rename_i hj
      obtain ⟨ys, S2, e2⟩ := P1.has
      rw [e2, Pv.R.bind_ok] at P1
      have En1 := En.evo R E1
      cases r1
      refine ⟨j, rfl, by omega, by omega, fun D hD => ?_⟩
      have e2' : lcGo (fun y S => match setTg (.n i) y (wipeD σd own) with | some σ' => lcOne (evs c cs' σ' S) fun S1 => ev c e' σ' S1 | none => .no) (rngD j.toNat) S1 = .ok ys S2 := e2
      obtain ⟨b0, turn⟩ := lc_common ok he hc (t := .n i) (own := own) (by simpa [slotsOf] using hin) En1 R1 hD (by rw [rngD_len, sizeLine_eq]; omega) e2'
      refine lc_range (lo := 0) (n := j.toNat) (fun i' H' => LcSt X.K (m ++ ms) ((av ++ ms) ++ [D]) D (upd H1 D (.lst [])) (fun y S => match setTg (.n i) y (wipeD σd own) with | some σ' => lcOne (evs c cs' σ' S) fun S1 => ev c e' σ' S1 | none => .no) (rngD j.toNat) S2 ys i' H')
        b0 (fun k H' hk st => turn k _ _ H' (rngD_get hk) st fun ns e0 => ?_) (fun H' st => ?_)
      · rw [Int.zero_add]; exact .int _
      · have st2 : LcSt X.K (m ++ ms) ((av ++ ms) ++ [D]) D (upd H1 D (.lst [])) (fun y S => match setTg (.n i) y (wipeD σd own) with | some σ' => lcOne (evs c cs' σ' S) fun S1 => ev c e' σ' S1 | none => .no) (rngD j.toNat) S2 ys (rngD j.toNat).length H' := by rw [rngD_len]; exact st
        obtain ⟨ns, k1, k2, k3⟩ := lc_end R1 hD st2
        exact P1.later k1 k2 k3
    · exact P1.elim
  · exact P1.elim
theorem se_lcR {scope : Scope} {x : Str} {p1 p2 p3 p : Pos} {n e : Expr} {n' e' : Ex} {i : Nat} {cs : List Expr} {cs' : Exs} (own : List (Str × Nat)) (hb : blkC N sc scope own = true) (ht : TrT N (relS scope sc) scope (.Name x p1) (.n i)) (hl2 : ("range" : Str) ∈ g.bl) (h2 : Gb sc "range") (hn : SE g N sc d c n n') (he : SE g N (relS scope sc) d c e e')
    (hc : (cs = [] ∧ cs' = .nil) ∨ ∃ q q', cs = [q] ∧ cs' = .cons q' .nil ∧ ST g N (relS scope sc) d c q q') (h1 : cs.length ≤ 1) (hin : i ∈ own.map (·.2)) (hst : ∀ es env, starEach (n :: es) env = (false, eval n env) :: starEach es env) :
    SE g N sc d c (.ListComp e [⟨.Name x p1, .Call (.Name "range" p2) [n] [] p3, cs, 0⟩] scope p) (.lcR i (own.map (·.2)) n' e' cs') := by
  intro X ok σd σ H m av S Q En R P
  have hblk : BlkOk X.N X.env.scope scope own := by rw [ok.N_, ok.sc_]; exact blkOk_by hb
  exact we_of (pe_lc (wi := iRng1 (tCons (we X n) tNil)) (g := tgR X.K (.n i)) (tt := wcB X scope cs) (te := weB X scope e) ok.calm (by rw [ok.N_]; exact ok.nd) (pi_range1 (ok.gl h2) (ok.bl _ hl2) (pa_cons pe_we pa_nil (hst _ _)) (hst _ _)) hblk
    (pg_blk ok ht) (fun s0 H0 C cl fp => pts_wcB h1 s0 H0 C cl fp) (fun s0 H0 C cl fp => ⟨fun pins s σ H Q I h => h s0 H0 C cl fp pins s I⟩)) (lcR_read ok hn he hc hin En R P)
end
section
variable {g : Stat} {N : List Str} {sc : Scope} {d : Nat} {c : Cfg}
theorem st_ite {t a b : Expr} {t' a' b' : Ex} {p : Pos} (ht : ST g N sc d c t t') (ha : ST g N sc d c a a') (hb : ST g N sc d c b b') : ST g N sc d c (.IfExp t a b p) (.ite t' a' b') := by
  intro X ok σd σ H m av S Q En R P
  simp only [tst, ev] at P
  have P' : Post X.K (fun _ _ _ (b k : Bool) => k = b) m av H ((ev c t' σd S).bind fun x S1 => match (rd S1 x).bind truthD with
      | some true => tst c a' σd S1 | some false => tst c b' σd S1 | none => .no) Q := by
    cases q : ev c t' σd S with
    | ex _ _ _ => rw [q] at P; exact P.elim
    | no => rw [q] at P; exact P.elim
    | ok x S1 =>
      rw [q, Pv.R.bind_ok] at P
      rw [Pv.R.bind_ok]
      cases q2 : (rd S1 x).bind truthD with
      | none => rw [q2] at P; exact P.elim
      | some k =>
        cases k with
        | true => rw [q2] at P; exact P
        | false => rw [q2] at P; exact P
  obtain ⟨x, S1, k, e1, e2, go⟩ := tst_cases (f := fun x S1 k => match k with | true => tst c a' σd S1 | false => tst c b' σd S1) P'
  intro pins s I
  refine isTrue_IfExp (thn (ht X ok σd σ H m av S (fun v H1 => v = k ∧ ∃ ms, Evo m H ms H1 ∧ Rel X.K (m ++ ms) (av ++ ms) H1 S1) En R (post_ok (tst_eq e1 e2) fun ms H1 v E1 R1 r1 => ⟨r1, ms, E1, R1⟩) pins s I) fun v s1 ⟨H1, I1, hv, ms, E1, R1⟩ => ?_)
  subst hv
  have P1 := go ms H1 E1 R1
  cases v with
  | true => exact ha X ok σd σ H1 _ _ S1 Q (En.evo R E1) R1 P1 pins s1 I1
  | false => exact hb X ok σd σ H1 _ _ S1 Q (En.evo R E1) R1 P1 pins s1 I1
theorem snd_chain {a b e : Expr} {a' b' e' : Ex} {p : Pos} (o o' : COp) (ha : SE g N sc d c a a') (hb : SE g N sc d c b b') (he : SE g N sc d c e e') : Snd g N sc d c (.Compare a [copOf o, copOf o'] [b, e] p) (.chain o o' a' b' e') := by
  have hm : lastMarks [copOf o, copOf o'] [b, e] = false := by
    show behindInMarks (copOf o') e = false
    cases o' <;> exact nomark e
  have key : ∀ (X : Cx), XOk g N sc d c X → ∀ (σd : En) (σ : SL) (H : Hp) (m av : List Addr) (S : Sto) (Q : VK), EnR X.K H m av σd σ → Rel X.K m av H S →
      PostA X.K m av H (ev c (.chain o o' a' b' e') σd S) Q → tChain (wop X (compareOp (copOf o))) (wop X (compareOp (copOf o'))) (we X a) (we X b) (we X e) σ H Q := by
    intro X ok σd σ H m av S Q En R P
    simp only [ev] at P
    obtain ⟨x, S1, e1⟩ := P.has
    refine ha X ok σd σ H m av S _ En R (post_ok e1 fun ms H1 v E1 R1 r1 => ?_)
    have P1 := P.step e1 E1 R1
    obtain ⟨y, S2, e2⟩ := P1.has
    have En1 := En.evo R E1
    refine hb X ok σd σ H1 _ _ S1 _ En1 R1 (post_ok e2 fun ns H2 u E2 R2 r2 => ?_)
    have P2 := P1.step e2 E2 R2
    cases x with
    | ref _ => exact P2.elim
    | d x =>
      cases y with
      | ref _ => exact P2.elim
      | d y =>
        cases w : cmpD o x y with
        | none => simp only [w] at P2; exact P2.elim
        | some k =>
          simp only [w] at P2
          refine cmp_ok (units64 ok) w (.inl (RepA.evo R1 E2 (x := .d x) r1)) (.inl r2) ⟨k, rfl, ?_⟩
          cases k with
          | false => exact P2.now R2 (Rep.bool _)
          | true =>
            obtain ⟨z, S3, e3⟩ := P2.has
            refine he X ok σd σ H2 _ _ S2 _ (EnR.evo R1 E2 En1) R2 (post_ok e3 fun ks H3 q E3 R3 r3 => ?_)
            have P3 := P2.step e3 E3 R3
            cases z with
            | ref _ => exact P3.elim
            | d z =>
              obtain ⟨t, e4, P4⟩ := P3.some
              cases w2 : cmpD o' y z with
              | none => rw [w2] at e4; cases e4
              | some k2 =>
                rw [w2] at e4
                simp only [Option.map_some, Option.some.injEq] at e4
                subst e4
                exact cmp_ok (units64 ok) w2 (.inl (RepA.evo R2 E3 (x := .d y) r2)) (.inl r3) (P4.now R3 (Rep.bool _))
  refine ⟨fun X ok σd σ H m av S Q En R P => we_of (pe_chain op_wop op_wop pe_we pe_we pe_we hm) (key X ok σd σ H m av S Q En R P), fun X ok σd σ H m av S Q En R P => ?_, fun z => nomatch z⟩
  refine wt_of (pt_chain op_wop op_wop pe_we pe_we pe_we hm) (key X ok σd σ H m av S _ En R ?_)
  simp only [tst] at P
  obtain ⟨x, S1, e1⟩ := P.has
  refine post_ok e1 fun ms H1 v E1 R1 r1 => ?_
  have P1 := P.step e1 E1 R1
  obtain ⟨k, e2, P2⟩ := P1.some
  have hx : ∃ b, x = .d (.bool b) := by
    simp only [ev] at e1
    cases q1 : ev c a' σd S with
    | ex _ _ _ => rw [q1] at e1; cases e1
    | no => rw [q1] at e1; cases e1
    | ok x1 T1 =>
      rw [q1, Pv.R.bind_ok] at e1
      cases q2 : ev c b' σd T1 with
      | ex _ _ _ => rw [q2] at e1; cases e1
      | no => rw [q2] at e1; cases e1
      | ok x2 T2 =>
        rw [q2, Pv.R.bind_ok] at e1
        cases x1 with
        | ref _ => cases e1
        | d x1 =>
          cases x2 with
          | ref _ => cases e1
          | d x2 =>
            cases w : cmpD o x1 x2 with
            | none => simp only [w] at e1; cases e1
            | some k =>
              simp only [w] at e1
              cases k with
              | false =>
                simp only [Pv.R.ok.injEq] at e1
                exact ⟨false, e1.1.symm⟩
              | true =>
                cases q3 : ev c e' σd T2 with
                | ex _ _ _ => simp only [q3] at e1; cases e1
                | no => simp only [q3] at e1; cases e1
                | ok x3 T3 =>
                  simp only [q3, Pv.R.bind_ok] at e1
                  cases x3 with
                  | ref _ => cases e1
                  | d z =>
                    cases q4 : cmpD o' x2 z with
                    | none => simp only [q4] at e1; cases e1
                    | some b =>
                      simp only [q4, Option.map_some, Pv.R.opt_some, Pv.R.ok.injEq] at e1
                      exact ⟨b, e1.1.symm⟩
  obtain ⟨b, rfl⟩ := hx
  simp only [rd, Option.bind_some, truthD, Option.some.injEq] at e2
  subst e2
  cases r1
  exact ⟨_, rfl, P2.now R1 rfl⟩
end
/-! ### a display of a dict, and its subscript at once -/
section
variable (g : Stat) (N : List Str) (sc : Scope) (d : Nat) (c : Cfg)
inductive SVs : List Expr → Exs → Prop
  | nil : SVs [] .nil
  | cons {e : Expr} {i : Ex} {es : List Expr} {is : Exs} (h : SE g N sc d c e i) (r : SVs es is) : SVs (e :: es) (.cons i is)
end
section
variable {g : Stat} {N : List Str} {sc : Scope} {d : Nat} {c : Cfg}
theorem keyI_is {k : Option Expr} {i : Int} (h : keyI k = some i) : ∃ j p, k = some (.Constant (.int i) j p) := by
  unfold keyI at h
  split at h
  · simp only [Option.some.injEq] at h
    subst h
    exact ⟨_, _, rfl⟩
  · cases h
theorem pairs_read {X : Cx} (ok : XOk g N sc d c X) {pos : Pos} : ∀ {keys : List (Option Expr)} {values : List Expr} {ks : List Int} {vs : Exs}, keys.map keyI = ks.map some → keys.length = values.length → SVs g N sc d c values vs →
    ∃ trs, PPs X pos keys values trs ∧ ∀ (σd : En) (σ : SL) (H : Hp) (m av : List Addr) (S : Sto) (Q : List (V × V) → Hp → Prop), EnR X.K H m av σd σ → Rel X.K m av H S → PostL X.K m av H (evs c vs σd S) (fun xs H' => Q ((ks.map V.int).zip xs) H') → tPairs trs σ H Q
  | [], values, ks, vs, hk, hl, hv => by
    cases hv with
    | nil =>
      refine ⟨[], pps_nil, fun σd σ H m av S Q En R P => ?_⟩
      have h := P.now (v := []) R .nil
      cases ks with
      | nil => exact h
      | cons _ _ => simp at hk
    | cons _ _ => simp at hl
  | k :: keys, values, ks, vs, hk, hl, hv => by
    cases hv with
    | nil => simp at hl
    | @cons e i es is h r =>
      cases ks with
      | nil => simp at hk
      | cons z ks =>
        simp only [List.map_cons, List.cons.injEq] at hk
        obtain ⟨h1, h2⟩ := hk
        obtain ⟨j, p, rfl⟩ := keyI_is h1
        obtain ⟨trs, t1, t2⟩ := pairs_read ok (pos := pos) h2 (by simpa using hl) r
        refine ⟨_, pps_cons pe_int pe_we t1, fun σd σ H m av S Q En R P => ?_⟩
        simp only [evs] at P
        obtain ⟨x, S1, e1⟩ := P.has
        show we X e σ H _
        refine h X ok σd σ H m av S _ En R (post_ok e1 fun ms H1 v E1 R1 r1 => ?_)
        have P1 := P.step e1 E1 R1
        obtain ⟨xs, S2, e2⟩ := P1.has
        refine t2 σd σ H1 _ _ S1 _ (En.evo R E1) R1 (post_ok e2 fun ns H2 us E2 R2 r2 => ?_)
        have P2 := P1.step e2 E2 R2
        exact P2.now (v := v :: us) R2 (.cons (RepA.evo R1 E2 r1) r2)
theorem merge_key {k : Key} : ∀ {kvs : List (Key × V)} {acc : List (Key × V)}, (kvs.map (·.1)).Nodup → valV (mergeK acc kvs) k = match (kvs.find? fun kv => decide (kv.1 = k)) with | some p => some p.2 | none => valV acc k
  | [], acc, _ => rfl
  | p :: kvs, acc, nd => by
    have nd2 : (kvs.map (·.1)).Nodup := (List.nodup_cons.mp nd).2
    have nin : p.1 ∉ kvs.map (·.1) := (List.nodup_cons.mp nd).1
    show valV (mergeK (putK acc p.1 p.2) kvs) k = _
    rw [merge_key nd2, List.find?_cons]
    by_cases e : p.1 = k
    · subst e
      rw [decide_eq_true rfl]
      have : (kvs.find? fun kv => decide (kv.1 = p.1)) = none := by
        rw [List.find?_eq_none]
        intro q hq
        simp only [decide_eq_true_eq]
        exact fun z => nin (List.mem_map.mpr ⟨q, hq, z⟩)
      simp only [this]
      rw [valV_put, if_pos rfl]
    · rw [decide_eq_false e]
      cases kvs.find? fun kv => decide (kv.1 = k) with
      | some q => rfl
      | none =>
        simp only
        rw [valV_put, if_neg (fun z => e z.symm)]
theorem zip_find {K : PySem.W.Frag} {H : Hp} {av : List Addr} {j : Int} {x : PyData} : ∀ {ks : List Int} {ds : List PyData} {vs : List V}, RepAll K H av ds vs → (ks.zip ds).lookup j = some x →
    ∃ v, (((ks.map Sum.inl : List Key).zip vs).find? fun kv => decide (kv.1 = Sum.inl j)) = some (Sum.inl j, v) ∧ Rep K H av x v
  | [], _, _, _, e => by simp at e
  | _ :: _, [], _, _, e => by simp at e
  | k :: ks, d :: ds, _, .cons h r, e => by
    simp only [List.zip_cons_cons, List.lookup_cons] at e
    simp only [List.map_cons, List.zip_cons_cons, List.find?_cons]
    by_cases hj : j = k
    · subst hj
      simp only [BEq.rfl, Option.some.injEq] at e
      subst e
      rw [decide_eq_true rfl]
      exact ⟨_, rfl, h⟩
    · have e1 : (j == k) = false := by simp [hj]
      rw [e1] at e
      have e2 : decide ((Sum.inl k : Key) = Sum.inl j) = false := decide_eq_false (fun z => hj (Sum.inl.inj z).symm)
      rw [e2]
      exact zip_find r e
theorem se_dix {keys : List (Option Expr)} {values : List Expr} {i : Expr} {ks : List Int} {vs : Exs} {i' : Ex} {p p2 : Pos} (hk : keys.map keyI = ks.map some) (nd : ks.Nodup) (h15 : ks.length ≤ 15) (h0 : keys ≠ []) (hl : keys.length = values.length) (hv : SVs g N sc d c values vs) (hi : SE g N sc d c i i') (hs : NoSl i) :
    SE g N sc d c (.Subscript (.Dict keys values p2) i p) (.dix ks vs i') := by
  intro X ok σd σ H m av S Q En R P
  simp only [ev] at P
  obtain ⟨as, S1, e1⟩ := P.has
  obtain ⟨trs, t1, t2⟩ := pairs_read ok (pos := p2) hk hl hv
  have lk : keys.length = ks.length := by have := congrArg List.length hk; simpa using this
  have hall : keys.all (·.isSome) = true := by
    rw [List.all_eq_true]
    intro q hq
    have : keyI q ∈ ks.map some := by rw [← hk]; exact List.mem_map.mpr ⟨q, hq, rfl⟩
    obtain ⟨z, _, hz⟩ := List.mem_map.mp this
    obtain ⟨_, _, rfl⟩ := keyI_is hz.symm
    rfl
  refine we_of (pe_dget (by have := units64 ok; omega) (pe_disp t1 hall hl h0 (by rw [lk]; exact h15)) pe_we hs) ?_
  intro q hq
  obtain ⟨E0, R0⟩ := R.laidA (o := .dK []) hq
  have nq : ∀ a ∈ av, a ≠ q := fun a ha z => by
    obtain ⟨u, hu⟩ := R.live a ha
    rw [z, hq] at hu; cases hu
  have En0 : EnR X.K (upd H q (.dK [])) m (av ++ [q]) σd σ := by
    have := EnR.evo2 (m := m) (ms := []) E0 R.sub En
    rwa [List.append_nil] at this
  refine t2 σd σ _ m (av ++ [q]) S _ En0 R0 (post_ok e1 fun ms H2 xs E2 R2 r2 => ?_)
  have nqm : q ∉ m := fun z => nq q (R.sub q z) rfl
  have nqs : q ∉ ms := fun z => by
    have := E2.new q z
    rw [upd_same] at this; cases this
  have nqmm : q ∉ m ++ ms := fun z => (List.mem_append.mp z).elim nqm nqs
  have hq2 : H2 q = some (.dK []) := E2.keep q _ upd_same nqm
  have lxs : xs.length = as.length := (r2.length).symm
  let kvs : List (Key × V) := (ks.map Sum.inl : List Key).zip xs
  have hps : (ks.map V.int).zip xs = kvs.map (fun kv => (kV kv.1, kv.2)) := by
    have key : ∀ (ks : List Int) (xs : List V), (ks.map V.int).zip xs = ((ks.map Sum.inl : List Key).zip xs).map (fun kv => (kV kv.1, kv.2)) := by
      intro ks
      induction ks with
      | nil => intro xs; rfl
      | cons k ks ih =>
        intro xs
        cases xs with
        | nil => rfl
        | cons x xs => simp only [List.map_cons, List.zip_cons_cons, ih]; rfl
    exact key ks xs
  refine ⟨hq2, kvs, hps, ?_, ?_⟩
  · have : kvs.length ≤ ks.length := by
      show ((ks.map Sum.inl : List Key).zip xs).length ≤ _
      rw [List.length_zip, List.length_map]; omega
    omega
  -- the dict is written
  have W : Evo (m ++ ms ++ [q]) H2 [] (upd H2 q (.dK (mergeK [] kvs))) := ⟨fun a o h n => by rw [upd_ne (fun z => n (by rw [z]; exact List.mem_append_right _ (List.mem_singleton.mpr rfl)))]; exact h, fun _ h => nomatch h⟩
  have subq : ∀ a ∈ m ++ ms ++ [q], a ∈ av ++ [q] ++ ms := fun a ha => by
    rcases List.mem_append.mp ha with z | z
    · exact R2.sub a z
    · rw [List.mem_singleton.mp z]; simp
  have R3 : Rel X.K (m ++ ms) (av ++ [q] ++ ms) (upd H2 q (.dK (mergeK [] kvs))) S1 := by
    refine ⟨R2.sub, fun a ha => ?_, R2.nd, R2.sto.imp fun o a ha x => ?_⟩
    · by_cases z : a = q
      · rw [z]; exact ⟨_, upd_same⟩
      · obtain ⟨o, ho⟩ := R2.live a ha
        exact ⟨o, by rw [upd_ne z]; exact ho⟩
    · cases o with
      | lst es =>
        obtain ⟨ws, g1, g2⟩ := x
        have na : a ≠ q := fun z => nqmm (z ▸ ha)
        have t' := RepAll.evo W subq g2
        rw [List.append_nil] at t'
        exact ⟨ws, by rw [upd_ne na]; exact g1, t'⟩
  have En3 : EnR X.K (upd H2 q (.dK (mergeK [] kvs))) (m ++ ms) (av ++ [q] ++ ms) σd σ := by
    have E2' := En0.evo R0 E2
    have := EnR.evo2 (m := m ++ ms) (ms := []) W subq E2'
    rwa [List.append_nil, List.append_nil] at this
  have P0 := P
  rw [e1, Pv.R.bind_ok] at P0
  obtain ⟨y, S2, e2⟩ := P0.has
  rw [e2, Pv.R.bind_ok] at P0
  refine hi X ok σd σ _ _ _ S1 _ En3 R3 (post_ok e2 fun ns H4 yv E4 R4 r4 => ?_)
  split at P0
  · rename_i ds j hds
    obtain ⟨xa, e3, P1⟩ := P0.some
    cases e4 : (ks.zip ds).lookup j with
    | none => rw [e4] at e3; cases e3
    | some x =>
      rw [e4] at e3
      simp only [Option.map_some, Option.some.injEq] at e3
      subst e3
      obtain ⟨v, f1, f2⟩ := zip_find (datas_rep r2 hds) e4
      cases r4
      have hq4 : H4 q = some (.dK (mergeK [] kvs)) := E4.keep q _ upd_same nqmm
      have ndk : (kvs.map (·.1)).Nodup := by
        have key : ∀ (ks : List Int) (xs : List V), ks.Nodup → (((ks.map Sum.inl : List Key).zip xs).map (·.1)).Nodup ∧ ∀ z ∈ ((ks.map Sum.inl : List Key).zip xs).map (·.1), z ∈ ks.map Sum.inl := by
          intro ks
          induction ks with
          | nil => intro xs _; exact ⟨List.nodup_nil, fun z hz => hz⟩
          | cons k ks ih =>
            intro xs nd
            cases xs with
            | nil => exact ⟨List.nodup_nil, fun z hz => by simp at hz⟩
            | cons x xs =>
              obtain ⟨i1, i2⟩ := ih xs (List.nodup_cons.mp nd).2
              simp only [List.map_cons, List.zip_cons_cons]
              refine ⟨List.nodup_cons.mpr ⟨fun z => ?_, i1⟩, fun z hz => ?_⟩
              · obtain ⟨k2, h2, h3⟩ := List.mem_map.mp (i2 _ z)
                cases h3
                exact (List.nodup_cons.mp nd).1 h2
              · rcases List.mem_cons.mp hz with hz | hz
                · rw [hz]; exact List.mem_cons_self
                · exact List.mem_cons_of_mem _ (i2 z hz)
        exact (key ks xs nd).1
      have hval : valV (mergeK [] kvs) (Sum.inl j) = some v := by
        rw [merge_key ndk, f1]
      have apart : ∀ {a : Addr} {o : HO}, H a = some o → a ≠ q := fun ha => ne_of_none ha hq
      have keep2 : ∀ {a : Addr} {o : HO}, H a = some o → a ∉ m → H2 a = some o := fun {a o} ha n => E2.keep a o (by rw [upd_ne (apart ha)]; exact ha) n
      have nms : ∀ {a : Addr} {o : HO}, H a = some o → a ∉ ms := fun {a o} ha z => by
        have := E2.new a z
        rw [upd_ne (apart ha), ha] at this; cases this
      have EE : Evo m H (ms ++ ns) H4 := by
        refine ⟨fun a o ha n => E4.keep a o (by rw [upd_ne (apart ha)]; exact keep2 ha n) fun z => (List.mem_append.mp z).elim n (nms ha), fun p hp => ?_⟩
        rcases List.mem_append.mp hp with z | z
        · have := E2.new p z
          have np : p ≠ q := fun e => nqs (e ▸ z)
          rwa [upd_ne np] at this
        · have h4 := E4.new p z
          have np : p ≠ q := fun e => by rw [e, upd_same] at h4; cases h4
          rw [upd_ne np] at h4
          cases w : H p with
          | none => rfl
          | some o =>
            by_cases hm : p ∈ m
            · obtain ⟨u, hu⟩ := R2.live p (R2.sub p (List.mem_append_left _ hm))
              rw [hu] at h4; cases h4
            · rw [keep2 w hm] at h4; cases h4
      have lessv : ∀ a ∈ av ++ (ms ++ ns), a ∈ av ++ [q] ++ ms ++ ns := fun a ha => by
        rcases List.mem_append.mp ha with z | z
        · exact List.mem_append_left _ (List.mem_append_left _ (List.mem_append_left _ z))
        · rcases List.mem_append.mp z with z | z
          · exact List.mem_append_left _ (List.mem_append_right _ z)
          · exact List.mem_append_right _ z
      have RR : Rel X.K (m ++ (ms ++ ns)) (av ++ (ms ++ ns)) H4 S2 := by
        rw [← List.append_assoc]
        refine ⟨fun a ha => ?_, fun a ha => R4.live a (lessv a ha), R4.nd, R4.sto.imp fun o a ha x => ?_⟩
        · rcases List.mem_append.mp ha with z | z
          · rcases List.mem_append.mp z with z | z
            · exact List.mem_append_left _ (R.sub a z)
            · exact List.mem_append_right _ (List.mem_append_left _ z)
          · exact List.mem_append_right _ (List.mem_append_right _ z)
        · cases o with
          | lst es =>
            obtain ⟨ws, g1, g2⟩ := x
            exact ⟨ws, g1, RepAll.less lessv g2⟩
      have t1 := Rep.evo W subq f2
      rw [List.append_nil] at t1
      have t2' := Rep.evo E4 R3.sub t1
      refine ⟨q, v, rfl, ?_, P1.later EE RR (Rep.less lessv t2')⟩
      have := DGet.k (k := Sum.inl j) hq4
      rw [hval] at this
      exact this
  · exact P0.elim
end
/-! ### all together -/
section
variable {g : Stat} {N : List Str} {d : Nat} {c : Cfg}
theorem conds {sc : Scope} {cs : List Expr} {cs' : Exs} (h : TrEs g N sc cs cs') (h1 : cs.length ≤ 1) (k : ∀ q q', TrE g N sc q q' → cs = [q] → cs' = .cons q' .nil → ST g N sc d c q q') : (cs = [] ∧ cs' = .nil) ∨ ∃ q q', cs = [q] ∧ cs' = .cons q' .nil ∧ ST g N sc d c q q' := by
  cases h with
  | nil => exact .inl ⟨rfl, rfl⟩
  | cons h r =>
    cases r with
    | nil => exact .inr ⟨_, _, rfl, rfl, k _ _ h rfl rfl⟩
    | cons _ _ => simp at h1
mutual
theorem TrE.snd : ∀ {sc : Scope} {e : Expr} {i : Ex}, TrE g N sc e i → Snd g N sc d c e i
  | _, _, _, .var h v d1 d2 => .mk' (se_var h v d1 d2) (fun _ _ => rfl) rfl
  | _, _, _, .int => .mk' (se_const (fun _ => pe_int) (fun _ _ _ => .int _)) (fun _ _ => rfl) rfl
  | _, _, _, .bool => .mk' (se_const (fun _ => pe_bl) (fun _ _ _ => .bool _)) (fun _ _ => rfl) rfl
  | _, _, _, .non => .mk' (se_const (fun _ => pe_non) (fun _ _ _ => .non)) (fun _ _ => rfl) rfl
  | _, _, _, .str => .mk' (se_const (fun _ => pe_str) (fun _ _ _ => .str _)) (fun _ _ => rfl) rfl
  | _, _, _, .glob h hg d1 => .mk' (se_glob h hg d1) (fun _ _ => rfl) rfl
  | _, _, _, .bin o ha hb => .mk' (se_bin o ha.snd.v hb.snd.v) (fun _ _ => rfl) rfl
  | _, _, _, .neg ha => .mk' (se_neg ha.snd.v) (fun _ _ => rfl) rfl
  | _, _, _, .not ha => snd_not ha.snd
  | _, _, _, .cmp o ha hb => snd_cmp o ha.snd.v hb.snd.v
  | _, _, _, .chain o o' ha hb he => snd_chain o o' ha.snd.v hb.snd.v he.snd.v
  | _, _, _, .one ha => se_one ha.snd
  | _, _, _, .and ha hr => snd_and ha.snd hr.snd
  | _, _, _, .or ha hr => snd_or ha.snd hr.snd
  | _, _, _, .ite ht ha hb => ⟨se_ite ht.snd.t ha.snd.v hb.snd.v, st_ite ht.snd.t ha.snd.t hb.snd.t, fun z => nomatch z⟩
  | _, _, _, .tup h hl => .mk' (se_tup h.snds (by rw [h.len]; exact hl)) (fun _ _ => rfl) rfl
  | _, _, _, .lst h hl => .mk' (se_lst h.snds (by rw [h.len]; exact hl)) (fun _ _ => rfl) rfl
  | _, _, _, .lstM h hl => .mk' (se_lstM h.snds (by rw [h.len]; exact hl)) (fun _ _ => rfl) rfl
  | _, _, _, .call h hf d1 hs => by cases hs with | cons h1 h2 => exact .mk' (se_call h hf d1 (sa_cons h1.snd.v h2.snds (h1.star _)) (h1.star _) h2.stars) (fun _ _ => rfl) rfl
  | _, _, _, .call0 h hf d1 => .mk' (se_call0 h hf d1) (fun _ _ => rfl) rfl
  | _, _, _, .callK h hf hk d1 hs => .mk' (se_callK h hf hk d1 hs.sndk) (fun _ _ => rfl) rfl
  | _, _, _, .biF f hf hx hb hl h d1 d2 hs => by cases hs with | cons h1 h2 => exact .mk' (se_biF f hf hx hb hl h d1 d2 (sa_cons h1.snd.v h2.snds (h1.star _)) (h1.star _) h2.stars) (fun _ _ => rfl) rfl
  | _, _, _, .biT f hf nr hb hl h d1 d2 hs => by cases hs with | cons h1 h2 => exact .mk' (se_biT f hf nr hb hl h d1 d2 (sa_cons h1.snd.v h2.snds (h1.star _)) (h1.star _) h2.stars) (fun _ _ => rfl) rfl
  | _, _, _, .biI f hf hi h d1 hs => by cases hs with | cons h1 h2 => exact .mk' (se_biI f hf hi h d1 (sa_cons h1.snd.v h2.snds (h1.star _)) (h1.star _) h2.stars) (fun _ _ => rfl) rfl
  | _, _, _, .isi f hf hT hb hl hl2 h h2 d1 d2 he => .mk' (se_isi f hf hT hb hl hl2 h h2 d1 d2 he.snd.v he.star) (fun _ _ => rfl) rfl
  | _, _, _, .lrange hl hl2 h h2 he => .mk' (se_lrange hl hl2 h h2 he.snd.v he.star) (fun _ _ => rfl) rfl
  | _, _, _, .ix ha hb => .mk' (se_ix ha.snd.v hb.snd.v hb.plainIx) (fun _ _ => rfl) rfl
  | _, _, _, .dix hk nd h15 h0 hl hv hi => .mk' (se_dix hk nd h15 h0 hl hv.sndv hi.snd.v hi.noSl) (fun _ _ => rfl) rfl
  | _, _, _, .slice ha hl hh => .mk' (se_slice ha.snd.v hl.sndo hh.sndo) (fun _ _ => rfl) rfl
  | _, _, _, .lc own hb ht hi he hc h1 hin => .mk' (se_lc own hb ht hi.snd.v he.snd.v (hc.sndc h1) h1 hin hi.folded) (fun _ _ => rfl) rfl
  | _, _, _, .lcR own hb ht hl2 h2 hn he hc h1 hin => .mk' (se_lcR own hb ht hl2 h2 hn.snd.v he.snd.v (hc.sndc h1) h1 hin hn.star) (fun _ _ => rfl) rfl
theorem TrEs.snds : ∀ {sc : Scope} {es : List Expr} {is : Exs}, TrEs g N sc es is → SA g N sc d c es is
  | _, _, _, .nil => sa_nil
  | _, _, _, .cons h r => sa_cons h.snd.v r.snds (h.star _)
theorem TrEs.sndv : ∀ {sc : Scope} {es : List Expr} {is : Exs}, TrEs g N sc es is → SVs g N sc d c es is
  | _, _, _, .nil => .nil
  | _, _, _, .cons h r => .cons h.snd.v r.sndv
theorem TrEs.sndc : ∀ {sc : Scope} {es : List Expr} {is : Exs}, TrEs g N sc es is → es.length ≤ 1 → (es = [] ∧ is = .nil) ∨ ∃ q q', es = [q] ∧ is = .cons q' .nil ∧ ST g N sc d c q q'
  | _, _, _, .nil, _ => .inl ⟨rfl, rfl⟩
  | _, _, _, .cons h .nil, _ => .inr ⟨_, _, rfl, rfl, h.snd.t⟩
  | _, _, _, .cons _ (.cons _ _), h1 => by simp at h1
theorem TrKs.sndk : ∀ {sc : Scope} {ks : List Keyword} {ns : List Str} {is : Exs}, TrKs g N sc ks ns is → SK g N sc d c ks ns is
  | _, _, _, _, .nil => sk_nil
  | _, _, _, _, .cons h r => sk_cons h.snd.v r.sndk
theorem TrO.sndo : ∀ {sc : Scope} {o : Option Expr} {is : Exs}, TrO g N sc o is → SO g N sc d c o is
  | _, _, _, .non => so_none
  | _, _, _, .some h => so_some h.snd.v
end
end
end Pv
set_option Elab.async false
set_option maxRecDepth 100000
set_option linter.unusedVariables false
/-! Pv9: statements. -/
namespace Pv
open PySem PySem.Spec PyProof.Rows L2

def ws (X : Cx) (st : Stmt) : TS := fun D σ H => ∀ pins s, Inv X pins σ H s → wpAny (model X.prog X.w) X.A (exec st X.env) (SP X pins D) X.xe s
theorem ps_ws {X : Cx} {st : Stmt} : PS X st (ws X st) := ⟨fun pins s σ H D I h => h pins s I⟩
theorem ws_of {X : Cx} {st : Stmt} {t : TS} (h : PS X st t) {σ : SL} {H : Hp} {D : Ends} (q : t D σ H) : ws X st D σ H := fun pins s I => h.run pins s σ H D I q
def wss (X : Cx) (st : List Stmt) : TS := fun D σ H => ∀ pins s, Inv X pins σ H s → wpAny (model X.prog X.w) X.A (execs st X.env) (SP X pins D) X.xe s
theorem pss_wss {X : Cx} {st : List Stmt} : PSs X st (wss X st) := ⟨fun pins s σ H D I h => h pins s I⟩
theorem wss_of {X : Cx} {st : List Stmt} {t : TS} (h : PSs X st t) {σ : SL} {H : Hp} {D : Ends} (q : t D σ H) : wss X st D σ H := fun pins s I => h.run pins s σ H D I q

/-- how a block ends, by values -/
inductive FV where
  | nx (σ : SL)
  | rt (v : V)
  | bk (σ : SL)
  | ct (σ : SL)
def dQ (D : Ends) : FV → Hp → Prop
  | .nx σ, H => D.nx σ H
  | .rt v, H => D.rt v H
  | .bk σ, H => D.bk σ H
  | .ct σ, H => D.ct σ H
def FlR (K : PySem.W.Frag) (H : Hp) (m av : List Addr) : Fl → FV → Prop
  | .nx σd, .nx σ => EnR K H m av σd σ
  | .rt a, .rt v => RepA K H m av a v
  | .bk σd, .bk σ => EnR K H m av σd σ
  | .ct σd, .ct σ => EnR K H m av σd σ
  | _, _ => False
abbrev PostS (K : PySem.W.Frag) (m av : List Addr) (H : Hp) (r : R Fl) (D : Ends) : Prop := Post K (FlR K) m av H r (dQ D)

section
variable {K : PySem.W.Frag} {m av : List Addr} {H : Hp} {S : Sto} {D : Ends}
theorem Post.toNx {σd : En} {σ : SL} (P : PostS K m av H (.ok (.nx σd) S) D) (R : Rel K m av H S) (r : EnR K H m av σd σ) : D.nx σ H := Post.now (v := FV.nx σ) P R r
theorem Post.toBk {σd : En} {σ : SL} (P : PostS K m av H (.ok (.bk σd) S) D) (R : Rel K m av H S) (r : EnR K H m av σd σ) : D.bk σ H := Post.now (v := FV.bk σ) P R r
theorem Post.toCt {σd : En} {σ : SL} (P : PostS K m av H (.ok (.ct σd) S) D) (R : Rel K m av H S) (r : EnR K H m av σd σ) : D.ct σ H := Post.now (v := FV.ct σ) P R r
theorem Post.toRt {a : A} {v : V} (P : PostS K m av H (.ok (.rt a) S) D) (R : Rel K m av H S) (r : RepA K H m av a v) : D.rt v H := Post.now (v := FV.rt v) P R r
end

structure XOkS (g : Stat) (N : List Str) (sc : Scope) (d : Nat) (c : Cfg) (X : Cx) : Prop extends XOk g N sc d c X where
  fnT : ∀ x, X.fn x = true
  nox : X.xe = fun _ _ => False

section
variable (g : Stat) (N : List Str) (sc : Scope) (d : Nat) (c : Cfg)
def SS (st : Stmt) (i : Sm) : Prop := ∀ (X : Cx), XOkS g N sc d c X → ∀ (σd : En) (σ : SL) (H : Hp) (m av : List Addr) (S : Sto) (D : Ends), EnR X.K H m av σd σ → Rel X.K m av H S → PostS X.K m av H (Pv.st c i σd S) D → ws X st D σ H
def SSs (st : List Stmt) (i : Ss) : Prop := ∀ (X : Cx), XOkS g N sc d c X → ∀ (σd : En) (σ : SL) (H : Hp) (m av : List Addr) (S : Sto) (D : Ends), EnR X.K H m av σd σ → Rel X.K m av H S → PostS X.K m av H (sts c i σd S) D → wss X st D σ H
end
section
variable {g : Stat} {N : List Str} {sc : Scope} {d : Nat} {c : Cfg} {pos : Pos}
theorem XOkS.own {X : Cx} (ok : XOkS g N sc d c X) : PassesOwn (model X.prog X.w) X.A X.env X.xe := by
  rw [ok.nox]; exact PassesOwn.never
theorem ss_set {i : Nat} {x : Str} {p : Pos} {e : Expr} {e' : Ex} (h : N[i]? = some x) (l : Loc sc x) (he : SE g N sc d c e e') (hs : ∀ env, swapsWith e (some (.Name x p)) pos.line env = pure false) : SS g N sc d c (.Assign [.Name x p] e pos) (.set i e') := by
  intro X ok σd σ H m av S D En R P
  simp only [st] at P
  obtain ⟨y, S1, e1⟩ := P.has
  refine ws_of (ps_set (by rw [ok.N_]; exact ok.nd) (by rw [ok.N_]; exact h) (by rw [ok.sc_]; exact l) pe_we (hs _) (.inl (ok.fnT _))) ?_
  refine he X ok.toXOk σd σ H m av S _ En R (post_ok e1 fun ms H1 v E1 R1 r1 => ?_)
  have P1 := P.step e1 E1 R1
  exact P1.toNx R1 (EnR.set (En.evo R E1) i r1)
theorem ss_setLc {i : Nat} {y : Str} {py : Pos} {scope : Scope} {tg it e : Expr} {it' e' : Ex} {cs : List Expr} {cs' : Exs} {t : Tg} {p : Pos} (own : List (Str × Nat)) (hy : N[i]? = some y) (hyl : sc.names.lookup y = some .local) (hk : sc.kind = .function) (hl : (py.line == p.line) = true)
    (hsa : (scope.names.any fun (n, k) => n == y && (k == .local || k == .cell)) = false)
    (hb : blkC N sc scope own = true) (ht : TrT N (relS scope sc) scope tg t) (hi : SE g N sc d c it it') (he : SE g N (relS scope sc) d c e e')
    (hc : (cs = [] ∧ cs' = .nil) ∨ ∃ q q', cs = [q] ∧ cs' = .cons q' .nil ∧ ST g N (relS scope sc) d c q q') (h1 : cs.length ≤ 1) (hin : (slotsOf t).all (fun i => decide (i ∈ own.map (·.2))) = true) (hfo : ∀ env v, foldedSetIterable it env v = pure v) :
    SS g N sc d c (.Assign [.Name y py] (.ListComp e [⟨tg, it, cs, 0⟩] scope p) pos) (.set i (.lc t (own.map (·.2)) it' e' cs')) := by
  intro X okS σd σ H m av S D En R P
  have ok := okS.toXOk
  simp only [st] at P
  obtain ⟨z, S1, e1⟩ := P.has
  have hblk : BlkOk X.N X.env.scope scope own := by rw [ok.N_, ok.sc_]; exact blkOk_by hb
  refine ws_of (ps_setLc (i := i) (wi := iSeq X it) (g := tgR X.K t) (tt := wcB X scope cs) (te := weB X scope e) ok.calm (by rw [ok.N_]; exact ok.nd) (by rw [ok.N_]; exact hy) (by rw [ok.sc_]; exact hyl)
    (sw_true (by rw [ok.sc_]; exact hk) (by rw [ok.sc_]; exact hyl) hl hsa) pi_seq hblk
    (pg_blk ok ht) (fun s0 H0 C cl fp => pts_wcB h1 s0 H0 C cl fp) (fun s0 H0 C cl fp => ⟨fun pins s σ H Q I h => h s0 H0 C cl fp pins s I⟩) (hfo _)) ?_
  refine lc_read ok hi he hc hin En R (post_ok e1 fun ms H1 v E1 R1 r1 => ?_)
  have P1 := P.step e1 E1 R1
  exact P1.toNx R1 (EnR.set (En.evo R E1) i r1)
theorem ss_setLcR {j : Nat} {y : Str} {py : Pos} {scope : Scope} {x : Str} {p1 p2 p3 p : Pos} {n e : Expr} {n' e' : Ex} {i : Nat} {cs : List Expr} {cs' : Exs} (own : List (Str × Nat)) (hy : N[j]? = some y) (hyl : sc.names.lookup y = some .local) (hk : sc.kind = .function) (hl : (py.line == p.line) = true)
    (hsa : (scope.names.any fun (n, k) => n == y && (k == .local || k == .cell)) = false)
    (hb : blkC N sc scope own = true) (ht : TrT N (relS scope sc) scope (.Name x p1) (.n i)) (hl2 : ("range" : Str) ∈ g.bl) (h2 : Gb sc "range") (hn : SE g N sc d c n n') (he : SE g N (relS scope sc) d c e e')
    (hc : (cs = [] ∧ cs' = .nil) ∨ ∃ q q', cs = [q] ∧ cs' = .cons q' .nil ∧ ST g N (relS scope sc) d c q q') (h1 : cs.length ≤ 1) (hin : i ∈ own.map (·.2)) (hst : ∀ es env, starEach (n :: es) env = (false, eval n env) :: starEach es env) :
    SS g N sc d c (.Assign [.Name y py] (.ListComp e [⟨.Name x p1, .Call (.Name "range" p2) [n] [] p3, cs, 0⟩] scope p) pos) (.set j (.lcR i (own.map (·.2)) n' e' cs')) := by
  intro X okS σd σ H m av S D En R P
  have ok := okS.toXOk
  simp only [st] at P
  obtain ⟨z, S1, e1⟩ := P.has
  have hblk : BlkOk X.N X.env.scope scope own := by rw [ok.N_, ok.sc_]; exact blkOk_by hb
  refine ws_of (ps_setLc (i := j) (wi := iRng1 (tCons (we X n) tNil)) (g := tgR X.K (.n i)) (tt := wcB X scope cs) (te := weB X scope e) ok.calm (by rw [ok.N_]; exact ok.nd) (by rw [ok.N_]; exact hy) (by rw [ok.sc_]; exact hyl)
    (sw_true (by rw [ok.sc_]; exact hk) (by rw [ok.sc_]; exact hyl) hl hsa) (pi_range1 (ok.gl h2) (ok.bl _ hl2) (pa_cons pe_we pa_nil (hst _ _)) (hst _ _)) hblk
    (pg_blk ok ht) (fun s0 H0 C cl fp => pts_wcB h1 s0 H0 C cl fp) (fun s0 H0 C cl fp => ⟨fun pins s σ H Q I h => h s0 H0 C cl fp pins s I⟩)) ?_
  refine lcR_read ok hn he hc hin En R (post_ok e1 fun ms H1 v E1 R1 r1 => ?_)
  have P1 := P.step e1 E1 R1
  exact P1.toNx R1 (EnR.set (En.evo R E1) j r1)

/-! two and three names at once -/
theorem ss_par {i j : Nat} {x y : Str} {a b : Expr} {a' b' : Ex} {px py pt : Pos} {kt k2 pt2} (hi : N[i]? = some x) (hj : N[j]? = some y) (hij : i ≠ j) (hx : sc.names.lookup x = some .local) (hy : sc.names.lookup y = some .local)
    (ha : SE g N sc d c a a') (hb : SE g N sc d c b b') (sa : ∀ es env, starEach (a :: es) env = (false, eval a env) :: starEach es env) (sb : ∀ es env, starEach (b :: es) env = (false, eval b env) :: starEach es env)
    (hw : ∀ env : Env, env.scope = sc → swappedStores [.Tuple [.Name x px, .Name y py] kt pt] (.Tuple [a, b] k2 pt2) env = pure (some [x, y])) :
    SS g N sc d c (.Assign [.Tuple [.Name x px, .Name y py] kt pt] (.Tuple [a, b] k2 pt2) pos) (.par i j a' b') := by
  intro X ok σd σ H m av S D En R P
  simp only [st] at P
  obtain ⟨y1, S1, e1⟩ := P.has
  refine ws_of (ps_par (i := i) (j := j) ok.calm (by rw [ok.N_]; exact ok.nd) (by rw [ok.N_]; exact hi) (by rw [ok.N_]; exact hj) hij (by rw [ok.sc_]; exact hx) (by rw [ok.sc_]; exact hy) (pa_cons pe_we (pa_cons pe_we pa_nil (sb _ _)) (sa _ _)) (hw _ ok.sc_)) ?_
  refine ha X ok.toXOk σd σ H m av S _ En R (post_ok e1 fun ms H1 v E1 R1 r1 => ?_)
  have P1 := P.step e1 E1 R1
  obtain ⟨y2, S2, e2⟩ := P1.has
  have En1 := En.evo R E1
  refine hb X ok.toXOk σd σ H1 _ _ S1 _ En1 R1 (post_ok e2 fun ns H2 u E2 R2 r2 => ?_)
  have P2 := P1.step e2 E2 R2
  have r1' := RepA.evo R1 E2 r1
  exact ⟨v, u, rfl, P2.toNx R2 (EnR.set (EnR.set (EnR.evo R1 E2 En1) i r1') j r2)⟩
theorem ss_par3 {i j l : Nat} {x y z : Str} {a b e : Expr} {a' b' e' : Ex} {px py pz pt : Pos} {kt k2 pt2} (hi : N[i]? = some x) (hj : N[j]? = some y) (hl : N[l]? = some z) (hij : i ≠ j) (hil : i ≠ l) (hjl : j ≠ l) (hx : sc.names.lookup x = some .local) (hy : sc.names.lookup y = some .local) (hz : sc.names.lookup z = some .local)
    (ha : SE g N sc d c a a') (hb : SE g N sc d c b b') (he : SE g N sc d c e e') (sa : ∀ es env, starEach (a :: es) env = (false, eval a env) :: starEach es env) (sb : ∀ es env, starEach (b :: es) env = (false, eval b env) :: starEach es env) (se : ∀ es env, starEach (e :: es) env = (false, eval e env) :: starEach es env)
    (hw : ∀ env : Env, env.scope = sc → swappedStores [.Tuple [.Name x px, .Name y py, .Name z pz] kt pt] (.Tuple [a, b, e] k2 pt2) env = pure (some [x, y, z])) :
    SS g N sc d c (.Assign [.Tuple [.Name x px, .Name y py, .Name z pz] kt pt] (.Tuple [a, b, e] k2 pt2) pos) (.par3 i j l a' b' e') := by
  intro X ok σd σ H m av S D En R P
  simp only [st] at P
  obtain ⟨y1, S1, e1⟩ := P.has
  refine ws_of (ps_par3 (i := i) (j := j) (l := l) ok.calm (by rw [ok.N_]; exact ok.nd) (by rw [ok.N_]; exact hi) (by rw [ok.N_]; exact hj) (by rw [ok.N_]; exact hl) hij hil hjl (by rw [ok.sc_]; exact hx) (by rw [ok.sc_]; exact hy) (by rw [ok.sc_]; exact hz) (pa_cons pe_we (pa_cons pe_we (pa_cons pe_we pa_nil (se _ _)) (sb _ _)) (sa _ _)) (hw _ ok.sc_)) ?_
  refine ha X ok.toXOk σd σ H m av S _ En R (post_ok e1 fun ms H1 v E1 R1 r1 => ?_)
  have P1 := P.step e1 E1 R1
  obtain ⟨y2, S2, e2⟩ := P1.has
  have En1 := En.evo R E1
  refine hb X ok.toXOk σd σ H1 _ _ S1 _ En1 R1 (post_ok e2 fun ns H2 u E2 R2 r2 => ?_)
  have P2 := P1.step e2 E2 R2
  obtain ⟨y3, S3, e3⟩ := P2.has
  have En2 := EnR.evo R1 E2 En1
  refine he X ok.toXOk σd σ H2 _ _ S2 _ En2 R2 (post_ok e3 fun ks H3 w E3 R3 r3 => ?_)
  have P3 := P2.step e3 E3 R3
  have r1' := RepA.evo R2 E3 (RepA.evo R1 E2 r1)
  have r2' := RepA.evo R2 E3 r2
  exact ⟨v, u, w, rfl, P3.toNx R3 (EnR.set (EnR.set (EnR.set (EnR.evo R2 E3 En2) i r1') j r2') l r3)⟩
theorem pg_own {X : Cx} (ok : XOkS g N sc d c X) {tg : Expr} {t : Tg} (ht : TrT N sc sc tg t) : PG X tg (tgR X.K t) :=
  pg_tg (scope := sc) ok.calm (by rw [ok.N_]; exact ok.nd) ok.N_ ok.sc_ (fun y _ => ok.fnT y) ht
theorem ss_unp {is : List Nat} {tg e : Expr} {e' : Ex} (ht : TrT N sc sc tg (.t is)) (he : SE g N sc d c e e') (hs : ∀ env, swapsWithSole [tg] e pos.line env = pure false) (hw : ∀ env : Env, env.scope = sc → swappedStores [tg] e env = pure none) (h1 : ∀ env, (assignEach [tg] env).map (·.2) = [assign tg env]) :
    SS g N sc d c (.Assign [tg] e pos) (.unp is e') := by
  intro X ok σd σ H m av S D En R P
  simp only [st] at P
  obtain ⟨y, S1, e1⟩ := P.has
  refine ws_of (ps_asg (g := tgR X.K (.t is)) pe_we (pg_own ok ht) (hs _) (hw _ ok.sc_) (h1 _)) ?_
  refine he X ok.toXOk σd σ H m av S _ En R (post_ok e1 fun ms H1 v E1 R1 r1 => ?_)
  have P1 := P.step e1 E1 R1
  cases y with
  | ref _ => exact P1.elim
  | d y =>
    obtain ⟨f, e2, P2⟩ := P1.some
    cases e3 : setTg (.t is) y σd with
    | none => rw [e3] at e2; cases e2
    | some σd' =>
      rw [e3] at e2
      simp only [Option.map_some, Option.some.injEq] at e2
      subst e2
      exact tg_ok (En.evo R E1) r1 e3 fun σ' En' _ => P2.toNx R1 En'
theorem ss_six {o i e : Expr} {o' i' e' : Ex} {tpos : Pos} (ho : SE g N sc d c o o') (hi : SE g N sc d c i i') (he : SE g N sc d c e e')
    (ha : ∀ env v, assign (.Subscript o i tpos) env v = (do
      let ov ← holding [v] (eval o env)
      let iv ← holding [v, ov] (eval i env)
      standAt tpos
      holding [v, ov, iv] (setItem ov iv v)
      release [v, ov, iv] [])) (hs : ∀ env, swapsWithSole [.Subscript o i tpos] e pos.line env = pure false) (hw : ∀ env, swappedStores [.Subscript o i tpos] e env = pure none) (h1 : ∀ env, (assignEach [.Subscript o i tpos] env).map (·.2) = [assign (.Subscript o i tpos) env]) :
    SS g N sc d c (.Assign [.Subscript o i tpos] e pos) (.six o' i' e') := by
  intro X ok σd σ H m av S D En R P
  simp only [st] at P
  obtain ⟨y, S1, e1⟩ := P.has
  refine ws_of (ps_asg (g := gSub (we X o) (we X i) rSetL) pe_we (pg_sub pe_we pe_we set_list (ha _)) (hs _) (hw _) (h1 _)) ?_
  refine he X ok.toXOk σd σ H m av S _ En R (post_ok e1 fun ms H1 v E1 R1 r1 => ?_)
  have P1 := P.step e1 E1 R1
  have En1 := En.evo R E1
  obtain ⟨x, S2, e2⟩ := P1.has
  refine ho X ok.toXOk σd σ H1 _ _ S1 _ En1 R1 (post_ok e2 fun ns H2 u E2 R2 r2 => ?_)
  have P2 := P1.step e2 E2 R2
  have En2 := EnR.evo R1 E2 En1
  obtain ⟨j, S3, e3⟩ := P2.has
  refine hi X ok.toXOk σd σ H2 _ _ S2 _ En2 R2 (post_ok e3 fun ks H3 w E3 R3 r3 => ?_)
  have P3 := P2.step e3 E3 R3
  have En3 := EnR.evo R2 E3 En2
  have r1' := RepA.evo R2 E3 (RepA.evo R1 E2 r1)
  have r2' := RepA.evo R2 E3 r2
  split at P3
  · rename_i r n y
    split at P3
    · rename_i ds hds
      cases hk : ixN ds.length n with
      | none => rw [hk] at P3; exact P3.elim
      | some k =>
        rw [hk] at P3
        obtain ⟨a, h1, rfl⟩ := r2'
        obtain ⟨b, vs, h2, h3, h4⟩ := R3.at_ hds
        rw [h1] at h2; cases h2
        cases r3
        refine ⟨a, vs, n, k, rfl, rfl, h3, by rw [← h4.length]; exact hk, ?_⟩
        obtain ⟨E4, R4⟩ := R3.write h1 (RepAll.set r1' k h4)
        have En4 := EnR.evo R3 E4 En3
        rw [List.append_nil, List.append_nil] at En4
        exact P3.later (v := FV.nx σ) (ms := []) E4 (by rw [List.append_nil, List.append_nil]; exact R4) (by rw [List.append_nil, List.append_nil]; exact En4)
    · exact P3.elim
  · exact P3.elim
theorem ss_ret {e : Expr} {e' : Ex} (he : SE g N sc d c e e') : SS g N sc d c (.Return (some e) pos) (.ret e') := by
  intro X ok σd σ H m av S D En R P
  simp only [st] at P
  obtain ⟨y, S1, e1⟩ := P.has
  refine ws_of (ps_ret pe_we) ?_
  refine he X ok.toXOk σd σ H m av S _ En R (post_ok e1 fun ms H1 v E1 R1 r1 => ?_)
  have P1 := P.step e1 E1 R1
  exact P1.toRt R1 r1
theorem ss_retN : SS g N sc d c (.Return none pos) .retN := by
  intro X ok σd σ H m av S D En R P
  simp only [st] at P
  exact ws_of ps_retN (P.toRt (v := .non) R (Rep.non))
theorem ss_ife {t : Expr} {t' : Ex} {a b : List Stmt} {a' b' : Ss} (ht : ST g N sc d c t t') (ha : SSs g N sc d c a a') (hb : SSs g N sc d c b b') : SS g N sc d c (.If t a b pos) (.ife t' a' b') := by
  intro X ok σd σ H m av S D En R P
  simp only [st] at P
  obtain ⟨x, S1, k, e1, e2, go⟩ := tst_cases (f := fun x S1 k => match k with | true => sts c a' σd S1 | false => sts c b' σd S1) P
  refine ws_of (ps_if pt_wt pss_wss pss_wss) ?_
  refine ht X ok.toXOk σd σ H m av S _ En R (post_ok (tst_eq e1 e2) fun ms H1 v E1 R1 r1 => ?_)
  have r1' : v = k := r1
  subst r1'
  have P1 := go ms H1 E1 R1
  cases v with
  | true => exact ha X ok σd σ H1 _ _ S1 D (En.evo R E1) R1 P1
  | false => exact hb X ok σd σ H1 _ _ S1 D (En.evo R E1) R1 P1
theorem ss_expr {e : Expr} {e' : Ex} (he : SE g N sc d c e e') (hs : ∀ env, swapsWith e none pos.line env = pure false) : SS g N sc d c (.Expr e pos) (.expr e') := by
  intro X ok σd σ H m av S D En R P
  simp only [st] at P
  obtain ⟨y, S1, e1⟩ := P.has
  refine ws_of (ps_expr pe_we (hs _)) ?_
  refine he X ok.toXOk σd σ H m av S _ En R (post_ok e1 fun ms H1 v E1 R1 r1 => ?_)
  have P1 := P.step e1 E1 R1
  exact P1.toNx R1 (En.evo R E1)
theorem ss_pass : SS g N sc d c (.Pass pos) .pass := by
  intro X ok σd σ H m av S D En R P
  simp only [st] at P
  exact ws_of ps_pass (P.toNx R En)
theorem ss_doc {x j pos'} : SS g N sc d c (.Expr (.Constant (.str x) j pos) pos') .pass := by
  intro X ok σd σ H m av S D En R P
  simp only [st] at P
  exact ws_of ps_doc (P.toNx R En)
theorem ss_brk : SS g N sc d c (.Break pos) .brk := by
  intro X ok σd σ H m av S D En R P
  simp only [st] at P
  exact ws_of ps_break (P.toBk R En)
theorem ss_cont : SS g N sc d c (.Continue pos) .cont := by
  intro X ok σd σ H m av S D En R P
  simp only [st] at P
  exact ws_of ps_continue (P.toCt R En)
theorem ss_raise {e : Option Expr} {k : Nat} {e' : Ex} : SS g N sc d c (.Raise e none pos) (.raise k e') := by
  intro X ok σd σ H m av S D En R P
  simp only [st] at P
  exact P.elim
theorem ss_nil : SSs g N sc d c [] .nil := by
  intro X ok σd σ H m av S D En R P
  simp only [sts] at P
  exact wss_of pss_nil (P.toNx R En)
theorem ss_cons {s : Stmt} {r : List Stmt} {s' : Sm} {r' : Ss} (hs : SS g N sc d c s s') (hr : SSs g N sc d c r r') : SSs g N sc d c (s :: r) (.cons s' r') := by
  intro X ok σd σ H m av S D En R P
  simp only [sts] at P
  obtain ⟨f, S1, e1⟩ := P.has
  refine wss_of (pss_cons ps_ws pss_wss) ?_
  refine hs X ok σd σ H m av S _ En R (post_ok e1 fun ms H1 v E1 R1 r1 => ?_)
  have P1 := P.step e1 E1 R1
  cases f with
  | nx σd' =>
    cases v with
    | nx σ' => exact hr X ok σd' σ' H1 _ _ S1 D r1 R1 P1
    | _ => exact r1.elim
  | rt a =>
    cases v with
    | rt v => exact P1.toRt R1 r1
    | _ => exact r1.elim
  | bk σd' =>
    cases v with
    | bk σ' => exact P1.toBk R1 r1
    | _ => exact r1.elim
  | ct σd' =>
    cases v with
    | ct σ' => exact P1.toCt R1 r1
    | _ => exact r1.elim
end
end Pv
set_option Elab.async false
set_option maxRecDepth 100000
set_option linter.unusedVariables false
/-! Pv10: loops; append; all statements together. -/
namespace Pv
open PySem PySem.Spec PyProof.Rows L2
section
variable {g : Stat} {N : List Str} {sc : Scope} {d : Nat} {c : Cfg} {pos : Pos}
/-- the state of a loop -/
def LpSt (K : PySem.W.Frag) (m av : List Addr) (H0 : Hp) (r : En → Sto → R Fl) (D : Ends) (σ : SL) (H : Hp) : Prop :=
  ∃ ms S σd, Evo m H0 ms H ∧ Rel K (m ++ ms) (av ++ ms) H S ∧ EnR K H (m ++ ms) (av ++ ms) σd σ ∧ PostS K (m ++ ms) (av ++ ms) H (r σd S) D
/-- one turn's body -/
theorem lp_body {K : PySem.W.Frag} {m av ms : List Addr} {H0 H : Hp} {b : R Fl} {r : En → Sto → R Fl} {D : Ends} {Nx : SL → Hp → Prop} (hN : ∀ σ H, LpSt K m av H0 r D σ H → Nx σ H) (E : Evo m H0 ms H) {S0 : Sto} (R : Rel K (m ++ ms) (av ++ ms) H S0)
    (P : PostS K (m ++ ms) (av ++ ms) H (b.bind fun f S2 => match f with
      | .nx σ' => r σ' S2
      | .ct σ' => r σ' S2
      | .bk σ' => .ok (.nx σ') S2
      | .rt a => .ok (.rt a) S2) D) : PostS K (m ++ ms) (av ++ ms) H b { D with nx := Nx, ct := Nx, bk := D.nx } := by
  obtain ⟨f, S2, e1⟩ := P.has
  refine post_ok e1 fun ns H1 v E1 R1 r1 => ?_
  have P1 := P.step e1 E1 R1
  have E2 := Evo.trans R E E1
  have app : (m ++ ms) ++ ns = m ++ (ms ++ ns) := List.append_assoc _ _ _
  have app2 : (av ++ ms) ++ ns = av ++ (ms ++ ns) := List.append_assoc _ _ _
  cases f with
  | nx σd' =>
    cases v with
    | nx σ' =>
      have r2 : EnR K H1 (m ++ ms ++ ns) (av ++ ms ++ ns) σd' σ' := r1
      rw [app, app2] at R1 P1 r2
      exact hN _ _ ⟨ms ++ ns, S2, σd', E2, R1, r2, P1⟩
    | _ => exact r1.elim
  | ct σd' =>
    cases v with
    | ct σ' =>
      have r2 : EnR K H1 (m ++ ms ++ ns) (av ++ ms ++ ns) σd' σ' := r1
      rw [app, app2] at R1 P1 r2
      exact hN _ _ ⟨ms ++ ns, S2, σd', E2, R1, r2, P1⟩
    | _ => exact r1.elim
  | bk σd' =>
    cases v with
    | bk σ' => exact P1.toNx R1 r1
    | _ => exact r1.elim
  | rt a =>
    cases v with
    | rt v => exact P1.toRt R1 r1
    | _ => exact r1.elim
theorem ss_whl {t : Expr} {t' : Ex} {b : List Stmt} {b' : Ss} (ht : ST g N sc d c t t') (hb : SSs g N sc d c b b') : SS g N sc d c (.While t b [] pos) (.whl t' b') := by
  intro X ok σd σ H m av S D En R P
  simp only [st] at P
  refine ws_of (ps_while ok.own pt_wt pss_wss) ?_
  refine ⟨fun n σ H' => LpSt X.K m av H (whlGo (fun σ S => (ev c t' σ S).bind fun x S1 => Pv.R.opt S1 ((rd S1 x).bind truthD)) (fun σ S => sts c b' σ S) n) D σ H', ⟨c.fuel, [], S, σd, Evo.refl, by rw [List.append_nil, List.append_nil]; exact R, by rw [List.append_nil, List.append_nil]; exact En, by rw [List.append_nil, List.append_nil]; exact P⟩, ?_⟩
  rintro n σ1 H1 ⟨ms, S1, σd1, E1, R1, En1, P1⟩
  cases n with
  | zero => exact P1.elim
  | succ n =>
    simp only [whlGo] at P1
    obtain ⟨k, S2, e2⟩ := P1.has
    refine ht X ok.toXOk σd1 σ1 H1 _ _ S1 _ En1 R1 (post_ok e2 fun ns H2 v E2 R2 r2 => ?_)
    have r2' : v = k := r2
    subst r2'
    have P2 := P1.step e2 E2 R2
    have En2 := EnR.evo R1 E2 En1
    cases v with
    | false =>
      rw [if_neg Bool.false_ne_true]
      rw [if_neg Bool.false_ne_true] at P2
      exact P2.toNx R2 En2
    | true =>
      rw [if_pos rfl]
      rw [if_pos rfl] at P2
      refine ⟨_, fun σ' H' w => ⟨n, Nat.lt_succ_self n, w⟩, hb X ok σd1 σ1 H2 _ _ S2 _ En2 R2 ?_⟩
      have E3 := Evo.trans R1 E1 E2
      rw [List.append_assoc, List.append_assoc] at R2 P2
      rw [List.append_assoc, List.append_assoc]
      exact lp_body (fun σ H w => w) E3 R2 P2
theorem for_turn {X : Cx} (ok : XOkS g N sc d c X) {t : Tg} {b : List Stmt} {b' : Ss} (hb : SSs g N sc d c b b') {H : Hp} {m av : List Addr} {S : Sto} (R : Rel X.K m av H S) {xs : List PyData} {D : Ends} {i : Nat} {x : PyData} {v : V} {σ : SL} {H' : Hp} (hx : xs[i]? = some x)
    (w : LpSt X.K m av H (forGo (fun _ => true) (fun y σ S => match setTg t y σ with | some σ' => sts c b' σ' S | none => .no) (xs.drop i)) D σ H') (rx : ∀ ms, Evo m H ms H' → Rep X.K H' (av ++ ms) x v) :
    tgR X.K t v σ H' fun σ2 H2 => wss X b { D with nx := LpSt X.K m av H (forGo (fun _ => true) (fun y σ S => match setTg t y σ with | some σ' => sts c b' σ' S | none => .no) (xs.drop (i + 1))) D, ct := LpSt X.K m av H (forGo (fun _ => true) (fun y σ S => match setTg t y σ with | some σ' => sts c b' σ' S | none => .no) (xs.drop (i + 1))) D, bk := D.nx } σ2 H2 := by
  obtain ⟨ms, S1, σd1, E1, R1, En1, P1⟩ := w
  have hdrop : xs.drop i = x :: xs.drop (i + 1) := by
    obtain ⟨h1, h2⟩ := List.getElem?_eq_some_iff.mp hx
    rw [List.drop_eq_getElem_cons h1, h2]
  rw [hdrop] at P1
  simp only [forGo, if_true] at P1
  cases q : setTg t x σd1 with
  | none => rw [q] at P1; exact P1.elim
  | some σd2 =>
    rw [q] at P1
    refine tg_ok En1 (rx ms E1) q fun σ2 En2 _ => ?_
    exact hb X ok σd2 σ2 H' _ _ S1 _ En2 R1 (lp_body (fun σ H w => w) E1 R1 P1)
theorem for_done {K : PySem.W.Frag} {m av : List Addr} {H : Hp} {f : PyData → En → Sto → R Fl} {xs : List PyData} {D : Ends} {σ : SL} {H' : Hp} {n : Nat} (hn : n = xs.length) (w : LpSt K m av H (forGo (fun _ => true) f (xs.drop n)) D σ H') : D.nx σ H' := by
  obtain ⟨ms, S1, σd1, E1, R1, En1, P1⟩ := w
  subst hn
  rw [List.drop_length] at P1
  exact P1.toNx R1 En1
theorem lp_keep {K : PySem.W.Frag} {m av : List Addr} {H : Hp} {S : Sto} (R : Rel K m av H S) {r : Pv.En → Sto → Pv.R Fl} {D : Ends} {σ : SL} {H' : Hp} (w : LpSt K m av H r D σ H') {a : Addr} (n : a ∉ av) {o : HO} (h : H a = some o) : H' a = some o := by
  obtain ⟨ms, S1, σd1, E1, _⟩ := w
  exact E1.keep a _ h fun z => n (R.sub a z)
theorem ss_for {tg it : Expr} {t : Tg} {it' : Ex} {b : List Stmt} {b' : Ss} (ht : TrT N sc sc tg t) (hi : SE g N sc d c it it') (hb : SSs g N sc d c b b') (hfo : ∀ env v, foldedSetIterable it env v = pure v) : SS g N sc d c (.For tg it b [] pos) (.for_ t it' b') := by
  intro X ok σd σ H m av S D En R P
  simp only [st] at P
  obtain ⟨x, S1, e1⟩ := P.has
  refine ws_of (ps_for (wi := iSeq X it) (g := tgR X.K t) ok.own ok.calm pi_seq (pg_own ok ht) pss_wss (hfo _)) ?_
  refine hi X ok.toXOk σd σ H m av S _ En R (post_ok e1 fun ms H1 v E1 R1 r1 => ?_)
  have P1 := P.step e1 E1 R1
  have En1 := En.evo R E1
  cases x with
  | ref _ => exact P1.elim
  | d x =>
    cases w : itemsOf x with
    | none => simp only [w] at P1; exact P1.elim
    | some xs =>
      simp only [w] at P1
      have W0 : LpSt X.K (m ++ ms) (av ++ ms) H1 (forGo (fun _ => true) (fun y σ S => match setTg t y σ with | some σ' => sts c b' σ' S | none => .no) (xs.drop 0)) D σ H1 :=
        ⟨[], S1, σd, Evo.refl, by rw [List.append_nil, List.append_nil]; exact R1, by rw [List.append_nil, List.append_nil]; exact En1, by rw [List.append_nil, List.append_nil]; exact P1⟩
      rcases itemsOf_cases w with rfl | rfl
      · obtain ⟨a, vs, rfl, hq, tr, kp⟩ := Rep.lstS r1
        refine .inl ⟨a, vs, rfl, hq, fun hz => ?_⟩
        exact for_list (K := X.K) (a := a) (xs := vs) (fun i σ H' => LpSt X.K (m ++ ms) (av ++ ms) H1 (forGo (fun _ => true) (fun y σ S => match setTg t y σ with | some σ' => sts c b' σ' S | none => .no) (xs.drop i)) D σ H')
          W0 (fun i σ H' _ w => kp H' fun n o h => lp_keep R1 w n h) (fun i v σ H' hv w => by
            obtain ⟨x, hx, rx⟩ := tr.get' hv
            exact for_turn ok hb R1 hx w fun ns e0 => Rep.evo e0 R1.sub rx) (fun σ H' w => for_done tr.length.symm w)
      · obtain ⟨a, vs, rfl, hq, tr, kp⟩ := Rep.tupS r1
        refine .inr ⟨a, vs, rfl, hq, fun hz => ?_⟩
        exact for_tup (K := X.K) (a := a) (xs := vs) (fun i σ H' => LpSt X.K (m ++ ms) (av ++ ms) H1 (forGo (fun _ => true) (fun y σ S => match setTg t y σ with | some σ' => sts c b' σ' S | none => .no) (xs.drop i)) D σ H')
          W0 (fun i σ H' _ w => kp H' fun n o h => lp_keep R1 w n h) (fun i v σ H' hv w => by
            obtain ⟨x, hx, rx⟩ := tr.get' hv
            exact for_turn ok hb R1 hx w fun ns e0 => Rep.evo e0 R1.sub rx) (fun σ H' w => for_done tr.length.symm w)
theorem ss_forR {x : Str} {p1 p2 p3 : Pos} {i : Nat} {n : Expr} {n' : Ex} {b : List Stmt} {b' : Ss} (ht : TrT N sc sc (.Name x p1) (.n i)) (hl2 : ("range" : Str) ∈ g.bl) (h2 : Gb sc "range") (hn : SE g N sc d c n n') (hb : SSs g N sc d c b b') (hst : ∀ es env, starEach (n :: es) env = (false, eval n env) :: starEach es env) :
    SS g N sc d c (.For (.Name x p1) (.Call (.Name "range" p2) [n] [] p3) b [] pos) (.forR i n' b') := by
  intro X ok σd σ H m av S D En R P
  simp only [st] at P
  obtain ⟨z, S1, e1⟩ := P.has
  refine ws_of (ps_for (wi := iRng1 (tCons (we X n) tNil)) (g := tgR X.K (.n i)) ok.own ok.calm (pi_range1 (ok.toXOk.gl h2) (ok.bl _ hl2) (pa_cons pe_we pa_nil (hst _ _)) (hst _ _)) (pg_own ok ht) pss_wss) ?_
  refine hn X ok.toXOk σd σ H m av S _ En R (post_ok e1 fun ms H1 v E1 R1 r1 => ?_)
  have P1 := P.step e1 E1 R1
  have En1 := En.evo R E1
  split at P1
  · rename_i j
    split at P1
    · rename_i hj
      cases r1
      refine ⟨j, rfl, by omega, by omega, ?_⟩
      have W0 : LpSt X.K (m ++ ms) (av ++ ms) H1 (forGo (fun _ => true) (fun y σ S => match setTg (.n i) y σ with | some σ' => sts c b' σ' S | none => .no) ((rngD j.toNat).drop 0)) D σ H1 :=
        ⟨[], S1, σd, Evo.refl, by rw [List.append_nil, List.append_nil]; exact R1, by rw [List.append_nil, List.append_nil]; exact En1, by rw [List.append_nil, List.append_nil]; exact P1⟩
      refine for_range (lo := 0) (n := j.toNat) (fun k σ H' => LpSt X.K (m ++ ms) (av ++ ms) H1 (forGo (fun _ => true) (fun y σ S => match setTg (.n i) y σ with | some σ' => sts c b' σ' S | none => .no) ((rngD j.toNat).drop k)) D σ H')
        W0 (fun k σ H' hk w => for_turn ok hb R1 (rngD_get hk) w fun ns e0 => ?_) (fun σ H' w => for_done (rngD_len _).symm w)
      rw [Int.zero_add]; exact .int _
    · exact P1.elim
  · exact P1.elim
theorem ss_app {o e : Expr} {o' e' : Ex} {apos cpos : Pos} (ho : SE g N sc d c o o') (he : SE g N sc d c e e') (sa : ∀ es env, starEach (e :: es) env = (false, eval e env) :: starEach es env) (hbase : ∀ env whole, attributeBase o "append" env whole = whole) (hline : (apos.endLine == cpos.line) = true) :
    SS g N sc d c (.Expr (.Call (.Attribute o "append" apos) [e] [] cpos) pos) (.app o' e') := by
  intro X ok σd σ H m av S D En R P
  simp only [st] at P
  obtain ⟨x, S1, e1⟩ := P.has
  have few : ((backTo cpos (starEach [e] X.env)).all (fun x => !x.1) && (backToKw cpos (keywordEach [] X.env)).all (fun x => x.1.isSome) && decide ((e :: []).length + ([] : List Keyword).length + (if ([] : List Keyword).isEmpty then 0 else 1) < 30)) = true := by
    rw [sa]; rfl
  refine ws_of (ps_expr (pe_bm PySem.F.plainAttrs_list PySem.F.slot_list_append PySem.F.type_list_append mt_append pe_we (pa_cons pe_we pa_nil (sa _ _)) (hbase _ _) few hline (sa _ _))) ?_
  refine ho X ok.toXOk σd σ H m av S _ En R (post_ok e1 fun ms H1 v E1 R1 r1 => ?_)
  have P1 := P.step e1 E1 R1
  have En1 := En.evo R E1
  obtain ⟨y, S2, e2⟩ := P1.has
  have ty : tyV X.K "list" v H1 := by
    cases x with
    | d x => rw [e2, Pv.R.bind_ok] at P1; exact P1.elim
    | ref r =>
      obtain ⟨a, h1, rfl⟩ := r1
      have hs : r < S1.length := by
        rw [R1.len]
        exact (List.getElem?_eq_some_iff.mp h1).1
      obtain ⟨o1, ho1⟩ : ∃ o1, S1[r]? = some o1 := ⟨_, List.getElem?_eq_getElem hs⟩
      cases o1 with
      | lst ds =>
        obtain ⟨b, vs, h2, h3, h4⟩ := R1.at_ ho1
        rw [h1] at h2; cases h2
        exact .inl ⟨rfl, vs, .inl (.inl h3)⟩
  refine ⟨ty, he X ok.toXOk σd σ H1 _ _ S1 _ En1 R1 (post_ok e2 fun ns H2 u E2 R2 r2 => ?_)⟩
  have P2 := P1.step e2 E2 R2
  have En2 := EnR.evo R1 E2 En1
  have r1' := RepA.evo R1 E2 r1
  split at P2
  · rename_i r y
    split at P2
    · rename_i ds hds
      split at P2
      · rename_i hz
        obtain ⟨a, h1, rfl⟩ := r1'
        obtain ⟨b, vs, h2, h3, h4⟩ := R2.at_ hds
        rw [h1] at h2; cases h2
        refine ⟨a, vs, u, rfl, rfl, h3, by rw [← h4.length]; exact hz, ?_⟩
        obtain ⟨E4, R4⟩ := R2.write h1 (h4.append (.cons r2 .nil))
        have En4 := EnR.evo R2 E4 En2
        rw [List.append_nil, List.append_nil] at En4
        exact P2.later (v := FV.nx σ) (ms := []) E4 (by rw [List.append_nil, List.append_nil]; exact R4) (by rw [List.append_nil, List.append_nil]; exact En4)
      · exact P2.elim
    · exact P2.elim
  · exact P2.elim
end
end Pv
set_option Elab.async false
set_option maxRecDepth 100000
set_option linter.unusedVariables false
/-! Pv11: which text is which statement, as a relation and as a check. -/
namespace Pv
open PySem PySem.Spec PyProof.Rows L2

/-! ### the side words -/
def notComp : Expr → Bool
  | .ListComp _ _ _ _ => false
  | .SetComp _ _ _ _ => false
  | .DictComp _ _ _ _ _ => false
  | _ => true
def notTup : Expr → Bool
  | .Tuple _ _ _ => false
  | _ => true
def isStar : Expr → Bool
  | .Starred _ _ => true
  | _ => false
theorem swaps_no {e : Expr} (h : notComp e = true) (t : Option Expr) (l : Nat) (env : Env) : swapsWith e t l env = pure false := by
  cases e <;> first | rfl | (exact absurd h (by simp [notComp]))
theorem swaps_tup {e : Expr} (es : List Expr) (k : Nat) (p : Pos) (l : Nat) (env : Env) : swapsWith e (some (.Tuple es k p)) l env = pure false := by
  cases e <;> rfl
theorem swaps_sub {e : Expr} (o i : Expr) (p : Pos) (l : Nat) (env : Env) : swapsWith e (some (.Subscript o i p)) l env = pure false := by
  cases e <;> rfl
theorem swapped_no {e : Expr} (h : notTup e = true) (tg : Expr) (env : Env) : swappedStores [tg] e env = pure none := by
  cases e <;> first | (cases tg <;> rfl) | (exact absurd h (by simp [notTup]))
theorem swapped_sub {e : Expr} (o i : Expr) (p : Pos) (env : Env) : swappedStores [.Subscript o i p] e env = pure none := by
  cases e <;> rfl
theorem swapped_len {es vs : List Expr} {k k2 : Nat} {p p2 : Pos} (h : (!(es.length == 2 || es.length == 3) || vs.length != es.length) = true) (env : Env) : swappedStores [.Tuple es k p] (.Tuple vs k2 p2) env = pure none := by
  unfold swappedStores
  simp only
  rw [if_pos (by rw [h]; rfl)]
theorem swapped_folded {es vs : List Expr} {k k2 : Nat} {p p2 : Pos} (h : (vs.any isStar || vs.all (foldedForSure 8)) = true) (env : Env) : swappedStores [.Tuple es k p] (.Tuple vs k2 p2) env = pure none := by
  unfold swappedStores
  simp only
  split
  · rfl
  · split
    · rfl
    · rename_i _ h2
      have e : vs.any isStar = false := by
        cases q : vs.any isStar with
        | false => rfl
        | true => exact absurd q h2
      rw [e, Bool.false_or] at h
      split
      · rfl
      · first | rfl | rw [if_pos h]
theorem swapped_two {x y : Str} {px py pt pt2 : Pos} {kt k2 : Nat} {a b : Expr} {env : Env} (hk : env.scope.kind = .function) (hx : env.scope.names.lookup x = some .local) (hy : env.scope.names.lookup y = some .local) (hl : (py.line == px.line) = true) (hn : x ≠ y)
    (h : (!isStar a && !isStar b && !(foldedForSure 8 a && foldedForSure 8 b) && !(constantsAlone 8 a && constantsAlone 8 b)) = true) : swappedStores [.Tuple [.Name x px, .Name y py] kt pt] (.Tuple [a, b] k2 pt2) env = pure (some [x, y]) := by
  have hb : env.blockKind = .function := by unfold Env.blockKind; rw [hk]; rfl
  have kx : env.kindOf x = some .local := hx
  have ky : env.kindOf y = some .local := hy
  simp only [Bool.and_eq_true, Bool.not_eq_true'] at h
  obtain ⟨⟨⟨h1, h2⟩, h3⟩, h4⟩ := h
  unfold swappedStores
  simp only
  rw [if_neg (by rw [hb]; exact Bool.false_ne_true)]
  split
  · rename_i q
    have q' : ((isStar a) || (isStar b || false)) = true := q
    rw [h1, h2] at q'
    exact absurd q' (by decide)
  generalize hL : List.filterMap _ [Expr.Name x px, Expr.Name y py] = L
  have e2 : L = [x, y] := by
    rw [← hL]
    simp [kx, ky, Expr.pos, eq_of_beq hl]
  subst e2
  have e3 : [x, y].eraseDups = [x, y] := by
    have : ¬ (y == x) = true := fun z => hn (eq_of_beq z).symm
    have w : (y == x) = false := by cases q : y == x with
      | false => rfl
      | true => exact absurd q this
    simp [List.eraseDups_cons, List.filter, w]
  rw [e3]
  rw [if_neg (by simp)]
  rw [if_neg (by simp [h3])]
  rw [if_neg (by simp [h4])]
theorem swapped_three {x y z : Str} {px py pz pt pt2 : Pos} {kt k2 : Nat} {a b c : Expr} {env : Env} (hk : env.scope.kind = .function) (hx : env.scope.names.lookup x = some .local) (hy : env.scope.names.lookup y = some .local) (hz : env.scope.names.lookup z = some .local) (hl : (py.line == px.line) = true) (hl2 : (pz.line == px.line) = true) (hn : x ≠ y) (hn2 : x ≠ z) (hn3 : y ≠ z)
    (h : (!isStar a && !isStar b && !isStar c && !(foldedForSure 8 a && (foldedForSure 8 b && foldedForSure 8 c)) && !(constantsAlone 8 a && (constantsAlone 8 b && constantsAlone 8 c))) = true) : swappedStores [.Tuple [.Name x px, .Name y py, .Name z pz] kt pt] (.Tuple [a, b, c] k2 pt2) env = pure (some [x, y, z]) := by
  have hb : env.blockKind = .function := by unfold Env.blockKind; rw [hk]; rfl
  have kx : env.kindOf x = some .local := hx
  have ky : env.kindOf y = some .local := hy
  have kz : env.kindOf z = some .local := hz
  simp only [Bool.and_eq_true, Bool.not_eq_true'] at h
  obtain ⟨⟨⟨⟨h1, h2⟩, h0⟩, h3⟩, h4⟩ := h
  unfold swappedStores
  simp only
  rw [if_neg (by rw [hb]; exact Bool.false_ne_true)]
  split
  · rename_i q
    have q' : ((isStar a) || (isStar b || (isStar c || false))) = true := q
    rw [h1, h2, h0] at q'
    exact absurd q' (by decide)
  generalize hL : List.filterMap _ [Expr.Name x px, Expr.Name y py, Expr.Name z pz] = L
  have e2 : L = [x, y, z] := by
    rw [← hL]
    simp [kx, ky, kz, Expr.pos, eq_of_beq hl, eq_of_beq hl2]
  subst e2
  have e3 : [x, y, z].eraseDups = [x, y, z] := by
    have f : ∀ {p q : Str}, p ≠ q → (q == p) = false := fun {p q} hpq => by
      cases w : q == p with
      | false => rfl
      | true => exact absurd (eq_of_beq w).symm hpq
    simp [List.eraseDups_cons, List.filter, f hn, f hn2, f hn3]
  rw [e3]
  rw [if_neg (by simp)]
  rw [if_neg (by simp [h3])]
  rw [if_neg (by simp [h4])]
end Pv
set_option Elab.async false
set_option maxRecDepth 100000
set_option linter.unusedVariables false
/-! Pv12: statements' relation; soundness; the check. -/
namespace Pv
open PySem PySem.Spec PyProof.Rows L2
mutual
inductive TrS (g : Stat) (N : List Str) (sc : Scope) : Stmt → Sm → Prop
  | set {x p e pos i e'} (h : N[i]? = some x) (l : Loc sc x) (he : TrE g N sc e e') (hs : notComp e = true) : TrS g N sc (.Assign [.Name x p] e pos) (.set i e')
  | setLc {y py scope tg it e cs p pos i it' e' cs' t} (own : List (Str × Nat)) (hy : N[i]? = some y) (hyl : sc.names.lookup y = some .local) (hk : sc.kind = .function) (hl : (py.line == p.line) = true)
    (hsa : (scope.names.any fun (n, k) => n == y && (k == .local || k == .cell)) = false)
    (hb : blkC N sc scope own = true) (ht : TrT N (relS scope sc) scope tg t) (hi : TrE g N sc it it') (he : TrE g N (relS scope sc) e e') (hc : TrEs g N (relS scope sc) cs cs') (h1 : cs.length ≤ 1) (hin : (slotsOf t).all (fun i => decide (i ∈ own.map (·.2))) = true) :
    TrS g N sc (.Assign [.Name y py] (.ListComp e [⟨tg, it, cs, 0⟩] scope p) pos) (.set i (.lc t (own.map (·.2)) it' e' cs'))
  | setLcR {y py scope x p1 p2 p3 n e cs p pos j i n' e' cs'} (own : List (Str × Nat)) (hy : N[j]? = some y) (hyl : sc.names.lookup y = some .local) (hk : sc.kind = .function) (hl : (py.line == p.line) = true)
    (hsa : (scope.names.any fun (n, k) => n == y && (k == .local || k == .cell)) = false)
    (hb : blkC N sc scope own = true) (ht : TrT N (relS scope sc) scope (.Name x p1) (.n i)) (hl2 : ("range" : Str) ∈ g.bl) (h2 : Gb sc "range") (hn : TrE g N sc n n') (he : TrE g N (relS scope sc) e e') (hc : TrEs g N (relS scope sc) cs cs') (h1 : cs.length ≤ 1) (hin : i ∈ own.map (·.2)) :
    TrS g N sc (.Assign [.Name y py] (.ListComp e [⟨.Name x p1, .Call (.Name "range" p2) [n] [] p3, cs, 0⟩] scope p) pos) (.set j (.lcR i (own.map (·.2)) n' e' cs'))
  | par {x y a b a' b' px py pt kt k2 pt2 pos i j} (hi : N[i]? = some x) (hj : N[j]? = some y) (hij : i ≠ j) (hk : sc.kind = .function) (hx : sc.names.lookup x = some .local) (hy : sc.names.lookup y = some .local) (hl : (py.line == px.line) = true) (hn : x ≠ y) (ha : TrE g N sc a a') (hb : TrE g N sc b b')
    (h : (!isStar a && !isStar b && !(foldedForSure 8 a && foldedForSure 8 b) && !(constantsAlone 8 a && constantsAlone 8 b)) = true) : TrS g N sc (.Assign [.Tuple [.Name x px, .Name y py] kt pt] (.Tuple [a, b] k2 pt2) pos) (.par i j a' b')
  | par3 {x y z a b c a' b' c' px py pz pt kt k2 pt2 pos i j l} (hi : N[i]? = some x) (hj : N[j]? = some y) (hl : N[l]? = some z) (hij : i ≠ j) (hil : i ≠ l) (hjl : j ≠ l) (hk : sc.kind = .function) (hx : sc.names.lookup x = some .local) (hy : sc.names.lookup y = some .local) (hz : sc.names.lookup z = some .local)
    (l1 : (py.line == px.line) = true) (l2 : (pz.line == px.line) = true) (hn : x ≠ y) (hn2 : x ≠ z) (hn3 : y ≠ z) (ha : TrE g N sc a a') (hb : TrE g N sc b b') (hc : TrE g N sc c c')
    (h : (!isStar a && !isStar b && !isStar c && !(foldedForSure 8 a && (foldedForSure 8 b && foldedForSure 8 c)) && !(constantsAlone 8 a && (constantsAlone 8 b && constantsAlone 8 c))) = true) : TrS g N sc (.Assign [.Tuple [.Name x px, .Name y py, .Name z pz] kt pt] (.Tuple [a, b, c] k2 pt2) pos) (.par3 i j l a' b' c')
  | unp {es k p e e' is pos} (ht : TrTs N sc sc es is) (he : TrE g N sc e e') (hw : ∀ env : Env, env.scope = sc → swappedStores [.Tuple es k p] e env = pure none) : TrS g N sc (.Assign [.Tuple es k p] e pos) (.unp is e')
  | six {o i e o' i' e' p pos} (ho : TrE g N sc o o') (hi : TrE g N sc i i') (he : TrE g N sc e e') : TrS g N sc (.Assign [.Subscript o i p] e pos) (.six o' i' e')
  | ret {e e' pos} (he : TrE g N sc e e') : TrS g N sc (.Return (some e) pos) (.ret e')
  | retN {pos} : TrS g N sc (.Return none pos) .retN
  | ife {t t' a a' b b' pos} (ht : TrE g N sc t t') (ha : TrSs g N sc a a') (hb : TrSs g N sc b b') : TrS g N sc (.If t a b pos) (.ife t' a' b')
  | whl {t t' b b' pos} (ht : TrE g N sc t t') (hb : TrSs g N sc b b') : TrS g N sc (.While t b [] pos) (.whl t' b')
  | for_ {tg it t it' b b' pos} (ht : TrT N sc sc tg t) (hi : TrE g N sc it it') (hb : TrSs g N sc b b') : TrS g N sc (.For tg it b [] pos) (.for_ t it' b')
  | forR {x p1 p2 p3 i n n' b b' pos} (ht : TrT N sc sc (.Name x p1) (.n i)) (hl2 : ("range" : Str) ∈ g.bl) (h2 : Gb sc "range") (hn : TrE g N sc n n') (hb : TrSs g N sc b b') : TrS g N sc (.For (.Name x p1) (.Call (.Name "range" p2) [n] [] p3) b [] pos) (.forR i n' b')
  | expr {e e' pos} (he : TrE g N sc e e') (hs : notComp e = true) : TrS g N sc (.Expr e pos) (.expr e')
  | doc {x j pos' pos} : TrS g N sc (.Expr (.Constant (.str x) j pos') pos) .pass
  | app {o e o' e' apos cpos pos} (ho : TrE g N sc o o') (he : TrE g N sc e e') (hline : (apos.endLine == cpos.line) = true) (hn : (match o with | .Call (.Name _ _) [] [] _ => false | _ => true) = true) : TrS g N sc (.Expr (.Call (.Attribute o "append" apos) [e] [] cpos) pos) (.app o' e')
  | pass {pos} : TrS g N sc (.Pass pos) .pass
  | brk {pos} : TrS g N sc (.Break pos) .brk
  | cont {pos} : TrS g N sc (.Continue pos) .cont
  | raise {e pos k e'} : TrS g N sc (.Raise e none pos) (.raise k e')
inductive TrSs (g : Stat) (N : List Str) (sc : Scope) : List Stmt → Ss → Prop
  | nil : TrSs g N sc [] .nil
  | cons {s r s' r'} (h : TrS g N sc s s') (hr : TrSs g N sc r r') : TrSs g N sc (s :: r) (.cons s' r')
end
section
variable {g : Stat} {N : List Str} {sc : Scope} {d : Nat} {c : Cfg}
theorem sole_sub {e o i : Expr} {p : Pos} {l : Nat} (env : Env) : swapsWithSole [.Subscript o i p] e l env = pure false := swaps_sub o i p l env
theorem sole_tup {e : Expr} {es : List Expr} {k : Nat} {p : Pos} {l : Nat} (env : Env) : swapsWithSole [.Tuple es k p] e l env = pure false := swaps_tup es k p l env
mutual
theorem TrS.snd : ∀ {s : Stmt} {i : Sm}, TrS g N sc s i → SS g N sc d c s i
  | _, _, .set h l he hs => ss_set h l he.snd.v fun _ => swaps_no hs _ _ _
  | _, _, .setLc own hy hyl hk hl hsa hb ht hi he hc h1 hin => ss_setLc own hy hyl hk hl hsa hb ht hi.snd.v he.snd.v (hc.sndc h1) h1 hin hi.folded
  | _, _, .setLcR own hy hyl hk hl hsa hb ht hl2 h2 hn he hc h1 hin => ss_setLcR own hy hyl hk hl hsa hb ht hl2 h2 hn.snd.v he.snd.v (hc.sndc h1) h1 hin hn.star
  | _, _, .par hi hj hij hk hx hy hl hn ha hb h => ss_par hi hj hij hx hy ha.snd.v hb.snd.v ha.star hb.star fun env e => swapped_two (by rw [e]; exact hk) (by rw [e]; exact hx) (by rw [e]; exact hy) hl hn h
  | _, _, .par3 hi hj hl hij hil hjl hk hx hy hz l1 l2 hn hn2 hn3 ha hb hc h => ss_par3 hi hj hl hij hil hjl hx hy hz ha.snd.v hb.snd.v hc.snd.v ha.star hb.star hc.star fun env e => swapped_three (by rw [e]; exact hk) (by rw [e]; exact hx) (by rw [e]; exact hy) (by rw [e]; exact hz) l1 l2 hn hn2 hn3 h
  | _, _, .unp ht he hw => ss_unp (.t ht) he.snd.v (fun env => sole_tup env) hw fun _ => rfl
  | _, _, .six ho hi he => ss_six ho.snd.v hi.snd.v he.snd.v (fun env v => by cases hi <;> rfl) (fun env => sole_sub env) (fun env => swapped_sub _ _ _ _) fun _ => rfl
  | _, _, .ret he => ss_ret he.snd.v
  | _, _, .retN => ss_retN
  | _, _, .ife ht ha hb => ss_ife ht.snd.t ha.snds hb.snds
  | _, _, .whl ht hb => ss_whl ht.snd.t hb.snds
  | _, _, .for_ ht hi hb => ss_for ht hi.snd.v hb.snds hi.folded
  | _, _, .forR ht hl2 h2 hn hb => ss_forR ht hl2 h2 hn.snd.v hb.snds hn.star
  | _, _, .expr he hs => ss_expr he.snd.v fun _ => swaps_no hs _ _ _
  | _, _, .doc => ss_doc
  | _, _, .app ho he hline hn => ss_app ho.snd.v he.snd.v he.star (fun env whole => by
      cases ho <;> first | rfl | (simp at hn)) hline
  | _, _, .pass => ss_pass
  | _, _, .brk => ss_brk
  | _, _, .cont => ss_cont
  | _, _, .raise => ss_raise
theorem TrSs.snds : ∀ {s : List Stmt} {i : Ss}, TrSs g N sc s i → SSs g N sc d c s i
  | _, _, .nil => ss_nil
  | _, _, .cons h hr => ss_cons h.snd hr.snds
end
end
end Pv
set_option Elab.async false
set_option maxRecDepth 100000
set_option linter.unusedVariables false
/-! Pv13: the check of a text against its expression. -/
namespace Pv
open PySem PySem.Spec PyProof.Rows L2
mutual
def eqD : PyData → PyData → Bool
  | .none, .none => true
  | .bool a, .bool b => a == b
  | .int a, .int b => decide (a = b)
  | .str a, .str b => decide (a = b)
  | .list a, .list b => eqDs a b
  | .tuple a, .tuple b => eqDs a b
  | _, _ => false
def eqDs : List PyData → List PyData → Bool
  | [], [] => true
  | a :: r, b :: s => eqD a b && eqDs r s
  | _, _ => false
end
mutual
theorem eqD_eq : ∀ {a b : PyData}, eqD a b = true → a = b
  | .none, b, h => by cases b <;> simp_all [eqD]
  | .bool _, b, h => by cases b <;> simp_all [eqD]
  | .int _, b, h => by cases b <;> simp_all [eqD]
  | .str _, b, h => by cases b <;> simp_all [eqD]
  | .list xs, b, h => by
    cases b with
    | list ys => rw [eqDs_eq (a := xs) (b := ys) (by simpa [eqD] using h)]
    | _ => simp [eqD] at h
  | .tuple xs, b, h => by
    cases b with
    | tuple ys => rw [eqDs_eq (a := xs) (b := ys) (by simpa [eqD] using h)]
    | _ => simp [eqD] at h
  | .dict _, b, h => by cases b <;> simp_all [eqD]
theorem eqDs_eq : ∀ {a b : List PyData}, eqDs a b = true → a = b
  | [], b, h => by cases b <;> simp_all [eqDs]
  | x :: xs, b, h => by
    cases b with
    | nil => simp [eqDs] at h
    | cons y ys =>
      simp only [eqDs, Bool.and_eq_true] at h
      rw [eqD_eq h.1, eqDs_eq h.2]
end
def kB (sc : Scope) (x : Str) (k : NameKind) : Bool := decide (sc.names.lookup x = some k)
def visB (sc : Scope) (x : Str) : Bool := kB sc x .local || kB sc x .cell || kB sc x .free
def locB (sc : Scope) (x : Str) : Bool := kB sc x .local || kB sc x .cell
theorem visB_ok {sc : Scope} {x : Str} (h : visB sc x = true) : Vis sc x := by
  simp only [visB, kB, Bool.or_eq_true, decide_eq_true_eq] at h
  rcases h with (h | h) | h
  · exact .inl h
  · exact .inr (.inl h)
  · exact .inr (.inr h)
theorem locB_ok {sc : Scope} {x : Str} (h : locB sc x = true) : Loc sc x := by
  simp only [locB, kB, Bool.or_eq_true, decide_eq_true_eq] at h
  exact h
theorem gbB_ok {sc : Scope} {x : Str} (h : kB sc x .globalImplicit = true) : Gb sc x := by
  exact of_decide_eq_true (p := sc.names.lookup x = some .globalImplicit) h
def dbg (x : Str) : Bool := !(x == ("__debug__" : Str))
theorem dbg_ok {x : Str} (h : dbg x = true) : (x == ("__debug__" : Str)) = false := by simpa [dbg] using h
def strip : Expr → Expr
  | .BoolOp _ [a] _ => a
  | e => e
def chkTs (N : List Str) (sc scope : Scope) : List Nat → List Expr → Bool
  | [], [] => true
  | i :: is, e :: es => (match e with
    | .Name x _ => decide (N[i]? = some x) && locB sc x && (kB scope x .cell || kB sc x .local)
    | _ => false) && chkTs N sc scope is es
  | _, _ => false
def chkT (N : List Str) (sc scope : Scope) : Tg → Expr → Bool
  | .n i, e => (match e with
    | .Name x _ => decide (N[i]? = some x) && locB sc x && (kB scope x .cell || kB sc x .local)
    | _ => false)
  | .t is, e => (match e with
    | .Tuple es _ _ => chkTs N sc scope is es
    | _ => false)
def ownOf (N : List Str) (is : List Nat) : List (Str × Nat) := is.filterMap fun i => N[i]?.map fun x => (x, i)
def inB (x : Str) (l : List Str) : Bool := decide (x ∈ l)
def biGen (g : Stat) (sc : Scope) (f : Bi) (x : Str) (es : List Expr) : Bool := kB sc x .globalImplicit && !es.isEmpty && (match biK f with
  | .fn n _ => decide (x = n) && inB x g.bl
  | .ty n _ => decide (x = n) && inB x g.bl
  | .im n id => decide (x = n) && decide (g.im x = some id))
def biIs (g : Stat) (sc : Scope) (T : String) (x : Str) (es : List Expr) : Bool := match es with
  | [_, .Name y _] => decide (x = ("isinstance" : Str)) && decide (y = Str.ofString T) && inB "isinstance" g.bl && inB (Str.ofString T) g.bl && kB sc "isinstance" .globalImplicit && kB sc (Str.ofString T) .globalImplicit
  | _ => false
def biLr (g : Stat) (sc : Scope) (x : Str) (es : List Expr) : Bool := match es with
  | [.Call (.Name y _) [_] [] _] => decide (x = ("list" : Str)) && decide (y = ("range" : Str)) && inB "list" g.bl && inB "range" g.bl && kB sc "list" .globalImplicit && kB sc "range" .globalImplicit
  | _ => false
def biPre (g : Stat) (sc : Scope) (f : Bi) (x : Str) (es : List Expr) : Bool := match f with
  | .listRange => biLr g sc x es
  | .isInt => biIs g sc "int" x es
  | .isBool => biIs g sc "bool" x es
  | .isTup => biIs g sc "tuple" x es
  | f => biGen g sc f x es
def biArgs (f : Bi) (es : List Expr) : List Expr := match f with
  | .listRange => (match es with
    | [.Call _ [e1] [] _] => [e1]
    | _ => [])
  | .isInt => es.take 1
  | .isBool => es.take 1
  | .isTup => es.take 1
  | _ => es
mutual
def chkE (g : Stat) (N : List Str) : Ex → Scope → Expr → Bool
  | .k x, sc, e => (match strip e with
    | .Constant (.int i) _ _ => eqD x (.int i)
    | .Constant (.bool i) _ _ => eqD x (.bool i)
    | .Constant (.str i) _ _ => eqD x (.str i)
    | .Constant .none _ _ => eqD x .none
    | .Name y _ => kB sc y .globalImplicit && dbg y && (match g.G y with
      | some dt => eqD x dt
      | none => false)
    | _ => false)
  | .v i, sc, e => (match strip e with
    | .Name x _ => decide (N[i]? = some x) && visB sc x && dbg x && !(x == ("__classdict__" : Str))
    | _ => false)
  | .bin o a b, sc, e => (match strip e with
    | .BinOp x op y _ => decide (op = opOf o) && chkE g N a sc x && chkE g N b sc y
    | _ => false)
  | .neg a, sc, e => (match strip e with
    | .UnaryOp .USub x _ => chkE g N a sc x
    | _ => false)
  | .not a, sc, e => (match strip e with
    | .UnaryOp .Not x _ => chkE g N a sc x
    | _ => false)
  | .cmp o a b, sc, e => (match strip e with
    | .Compare x [op] [y] _ => decide (op = copOf o) && chkE g N a sc x && chkE g N b sc y
    | _ => false)
  | .chain o o' a b d, sc, e => (match strip e with
    | .Compare x [op, op'] [y, z] _ => decide (op = copOf o) && decide (op' = copOf o') && chkE g N a sc x && chkE g N b sc y && chkE g N d sc z
    | _ => false)
  | .and a b, sc, e => (match strip e with
    | .BoolOp .And (x :: y :: r) p => chkE g N a sc x && chkE g N b sc (.BoolOp .And (y :: r) p)
    | _ => false)
  | .or a b, sc, e => (match strip e with
    | .BoolOp .Or (x :: y :: r) p => chkE g N a sc x && chkE g N b sc (.BoolOp .Or (y :: r) p)
    | _ => false)
  | .ite t a b, sc, e => (match strip e with
    | .IfExp x y z _ => chkE g N t sc x && chkE g N a sc y && chkE g N b sc z
    | _ => false)
  | .tup xs, sc, e => (match strip e with
    | .Tuple es _ _ => chkEs g N xs sc es && decide (es.length ≤ 1000)
    | _ => false)
  | .lst xs, sc, e => (match strip e with
    | .List es _ => chkEs g N xs sc es && decide (es.length ≤ 1000)
    | _ => false)
  | .lstM xs, sc, e => (match strip e with
    | .List es _ => chkEs g N xs sc es && decide (es.length ≤ 1000)
    | _ => false)
  | .call k xs, sc, e => (match strip e with
    | .Call (.Name x _) es [] _ => kB sc x .globalImplicit && decide (g.F x = some k) && dbg x && chkEs g N xs sc es
    | .Call (.Name x _) [] kws _ => kB sc x .globalImplicit && decide (g.F x = some k) && dbg x && g.kw k && decide (kws.map (·.arg) = (g.ps k).map some) && chkEs g N xs sc (kws.map (·.value))
    | _ => false)
  | .bi f xs, sc, e => (match strip e with
    | .Call (.Name x _) es [] _ => biPre g sc f x es && chkEs g N xs sc (biArgs f es)
    | _ => false)
  | .ix a b, sc, e => (match strip e with
    | .Subscript x y _ => chkE g N a sc x && chkE g N b sc y
    | _ => false)
  | .dix ks vs i, sc, e => (match strip e with
    | .Subscript (.Dict keys values _) j _ => decide (keys.map keyI = ks.map some) && decide ks.Nodup && decide (ks.length ≤ 15) && !keys.isEmpty && decide (keys.length = values.length) && chkEs g N vs sc values && chkE g N i sc j
    | _ => false)
  | .slice a lo hi, sc, e => (match strip e with
    | .Subscript x (.Slice l h none _) _ => chkE g N a sc x && chkEs g N lo sc l.toList && chkEs g N hi sc h.toList
    | _ => false)
  | .lc t is it e1 cs, sc, e => (match strip e with
    | .ListComp x [⟨tg, y, ifs, 0⟩] scope _ => decide ((ownOf N is).map (·.2) = is) && blkC N sc scope (ownOf N is) && chkT N (relS scope sc) scope t tg && chkE g N it sc y && chkE g N e1 (relS scope sc) x && chkEs g N cs (relS scope sc) ifs && decide (ifs.length ≤ 1) && (slotsOf t).all (fun i => decide (i ∈ is))
    | _ => false)
  | .lcR i is n e1 cs, sc, e => (match strip e with
    | .ListComp x [⟨tg, .Call (.Name r _) [y] [] _, ifs, 0⟩] scope _ => decide ((ownOf N is).map (·.2) = is) && blkC N sc scope (ownOf N is) && chkT N (relS scope sc) scope (.n i) tg && decide (r = ("range" : Str)) && inB "range" g.bl && kB sc "range" .globalImplicit && chkE g N n sc y && chkE g N e1 (relS scope sc) x && chkEs g N cs (relS scope sc) ifs && decide (ifs.length ≤ 1) && decide (i ∈ is)
    | _ => false)
def chkEs (g : Stat) (N : List Str) : Exs → Scope → List Expr → Bool
  | .nil, sc, es => es.isEmpty
  | .cons a r, sc, es => (match es with
    | e :: es => chkE g N a sc e && chkEs g N r sc es
    | [] => false)
end
theorem TrE.unstrip {g : Stat} {N : List Str} {sc : Scope} {e : Expr} {i : Ex} (h : TrE g N sc (strip e) i) : TrE g N sc e i := by
  unfold strip at h
  split at h
  · exact .one h
  · exact h
theorem chkTs_ok {N : List Str} {sc scope : Scope} : ∀ {is : List Nat} {es : List Expr}, chkTs N sc scope is es = true → TrTs N sc scope es is
  | [], [], _ => .nil
  | [], _ :: _, h => by simp [chkTs] at h
  | _ :: _, [], h => by simp [chkTs] at h
  | i :: is, e :: es, h => by
    simp only [chkTs] at h
    split at h
    · simp only [Bool.and_eq_true, Bool.or_eq_true, kB, decide_eq_true_eq] at h
      exact .cons h.1.1.1 (locB_ok h.1.1.2) h.1.2 (chkTs_ok h.2)
    · simp at h
theorem chkT_ok {N : List Str} {sc scope : Scope} {t : Tg} {e : Expr} (h : chkT N sc scope t e = true) : TrT N sc scope e t := by
  cases t with
  | n i =>
    simp only [chkT] at h
    split at h
    · simp only [Bool.and_eq_true, Bool.or_eq_true, kB, decide_eq_true_eq] at h
      exact .n h.1.1 (locB_ok h.1.2) h.2
    · cases h
  | t is =>
    simp only [chkT] at h
    split at h
    · exact .t (chkTs_ok h)
    · cases h
theorem inB_ok {x : Str} {l : List Str} (h : inB x l = true) : x ∈ l := of_decide_eq_true h
theorem chkKs_ok {g : Stat} {N : List Str} {sc : Scope} : ∀ {xs : Exs} {ks : List Keyword} {ns : List Str}, ks.map (·.arg) = ns.map some → TrEs g N sc (ks.map (·.value)) xs → TrKs g N sc ks ns xs
  | _, [], [], _, h => by cases h; exact .nil
  | _, [], _ :: _, e, _ => by simp at e
  | _, _ :: _, [], e, _ => by simp at e
  | _, ⟨a, v, p⟩ :: ks, n :: ns, e, h => by
    simp only [List.map_cons, List.cons.injEq] at e
    cases h with
    | cons h r =>
      obtain ⟨rfl, e2⟩ := e
      exact .cons h (chkKs_ok e2 r)
theorem chkO_ok {g : Stat} {N : List Str} {sc : Scope} {xs : Exs} {o : Option Expr} (h : TrEs g N sc o.toList xs) : TrO g N sc o xs := by
  cases o with
  | none => cases h; exact .non
  | some e =>
    cases h with
    | cons h r => cases r; exact .some h
end Pv
set_option Elab.async false
set_option maxRecDepth 100000
set_option linter.unusedVariables false
/-! Pv14: the check is right. -/
namespace Pv
open PySem PySem.Spec PyProof.Rows L2
theorem biFn_boot {f : Bi} {n : Str} {id : String} (h : biK f = .fn n id) : bootBuiltins n = some (.builtin id) ∧ (n == ("__debug__" : Str)) = false ∧ n ≠ "__name__" := by
  cases f <;> simp only [biK, BK.fn.injEq, reduceCtorEq] at h <;> (obtain ⟨rfl, rfl⟩ := h; exact ⟨by rfl, by decide +kernel, by decide +kernel⟩)
theorem biTy_boot {f : Bi} {n : Str} {id : String} (h : biK f = .ty n id) : bootBuiltins n = some (.type id) ∧ (n == ("__debug__" : Str)) = false ∧ n ≠ "__name__" := by
  cases f <;> simp only [biK, BK.ty.injEq, reduceCtorEq] at h <;> (obtain ⟨rfl, rfl⟩ := h; exact ⟨by rfl, by decide +kernel, by decide +kernel⟩)
theorem biIm_boot {f : Bi} {n : Str} {id : String} (h : biK f = .im n id) : (n == ("__debug__" : Str)) = false := by
  cases f <;> simp only [biK, BK.im.injEq, reduceCtorEq] at h <;> (obtain ⟨rfl, rfl⟩ := h; decide +kernel)
theorem biX_boot {f : Bi} {T : String} (h : biX f = [.ty T]) : biK f = .fn "isinstance" "isinstance" ∧ bootBuiltins (Str.ofString T) = some (.type T) ∧ (Str.ofString T == ("__debug__" : Str)) = false ∧ Str.ofString T ≠ "__name__" := by
  cases f <;> simp only [biX, List.cons.injEq, V.ty.injEq, and_true, reduceCtorEq] at h <;> (subst h; exact ⟨rfl, by rfl, by decide +kernel, by decide +kernel⟩)
section
variable {g : Stat} {N : List Str}
theorem biGen_ok {sc : Scope} {f : Bi} {x : Str} {p pos : Pos} {es : List Expr} {xs : Exs} (hf : f ≠ .listRange) (hX : biX f = []) (h : biGen g sc f x es = true) (e4 : TrEs g N sc es xs) : TrE g N sc (.Call (.Name x p) es [] pos) (.bi f xs) := by
  simp only [biGen, Bool.and_eq_true] at h
  obtain ⟨⟨h1, h2⟩, h3⟩ := h
  cases es with
  | nil => simp at h2
  | cons e1 es =>
    split at h3
    · rename_i n id hk
      simp only [Bool.and_eq_true, decide_eq_true_eq] at h3
      obtain ⟨rfl, h5⟩ := h3
      obtain ⟨b1, b2, b3⟩ := biFn_boot hk
      exact .biF f hk hX b1 (inB_ok h5) (gbB_ok h1) b2 b3 e4
    · rename_i n id hk
      simp only [Bool.and_eq_true, decide_eq_true_eq] at h3
      obtain ⟨rfl, h5⟩ := h3
      obtain ⟨b1, b2, b3⟩ := biTy_boot hk
      exact .biT f hk hf b1 (inB_ok h5) (gbB_ok h1) b2 b3 e4
    · rename_i n id hk
      simp only [Bool.and_eq_true, decide_eq_true_eq] at h3
      obtain ⟨rfl, h5⟩ := h3
      exact .biI f hk h5 (gbB_ok h1) (biIm_boot hk) e4
theorem biIs_ok {sc : Scope} {f : Bi} {T : String} {x : Str} {p pos : Pos} {es : List Expr} {xs : Exs} (hX : biX f = [.ty T]) (h : biIs g sc T x es = true) (e4 : TrEs g N sc (es.take 1) xs) : TrE g N sc (.Call (.Name x p) es [] pos) (.bi f xs) := by
  unfold biIs at h
  split at h
  · simp only [Bool.and_eq_true, decide_eq_true_eq] at h
    obtain ⟨⟨⟨⟨⟨rfl, rfl⟩, h3⟩, h4⟩, h5⟩, h6⟩ := h
    obtain ⟨b1, b2, b3, b4⟩ := biX_boot hX
    cases e4 with
    | cons a r =>
      cases r
      exact .isi f b1 hX b2 (inB_ok h3) (inB_ok h4) (gbB_ok h5) (gbB_ok h6) b3 b4 a
  · cases h
theorem biPre_ok {sc : Scope} {f : Bi} {x : Str} {p pos : Pos} {es : List Expr} {xs : Exs} (h : biPre g sc f x es = true) (e4 : TrEs g N sc (biArgs f es) xs) : TrE g N sc (.Call (.Name x p) es [] pos) (.bi f xs) := by
  cases f with
  | listRange =>
    have h : biLr g sc x es = true := h
    unfold biLr at h
    split at h
    · simp only [Bool.and_eq_true, decide_eq_true_eq] at h
      obtain ⟨⟨⟨⟨⟨rfl, rfl⟩, h3⟩, h4⟩, h5⟩, h6⟩ := h
      have e5 : TrEs g N sc [_] xs := e4
      cases e5 with
      | cons a r =>
        cases r
        exact .lrange (inB_ok h3) (inB_ok h4) (gbB_ok h5) (gbB_ok h6) a
    · cases h
  | isInt => exact biIs_ok rfl h e4
  | isBool => exact biIs_ok rfl h e4
  | isTup => exact biIs_ok rfl h e4
  | _ => exact biGen_ok (by intro z; cases z) rfl h e4
mutual
theorem chkE_ok : ∀ (i : Ex) {sc : Scope} {e : Expr}, chkE g N i sc e = true → TrE g N sc e i
  | .k x, sc, e, h => by
    simp only [chkE] at h
    refine TrE.unstrip ?_
    split at h
    · rename_i w; rw [w, eqD_eq h]; exact .int
    · rename_i w; rw [w, eqD_eq h]; exact .bool
    · rename_i w; rw [w, eqD_eq h]; exact .str
    · rename_i w; rw [w, eqD_eq h]; exact .non
    · rename_i w
      rw [w]
      simp only [Bool.and_eq_true] at h
      obtain ⟨⟨h1, h2⟩, h3⟩ := h
      split at h3
      · rename_i dt q
        rw [eqD_eq h3]
        exact .glob (gbB_ok h1) q (dbg_ok h2)
      · cases h3
    · cases h
  | .v i, sc, e, h => by
    simp only [chkE] at h
    refine TrE.unstrip ?_
    split at h
    · rename_i w; rw [w]
      simp only [Bool.and_eq_true, decide_eq_true_eq, Bool.not_eq_true'] at h
      exact .var h.1.1.1 (visB_ok h.1.1.2) (dbg_ok h.1.2) h.2
    · cases h
  | .bin o a b, sc, e, h => by
    simp only [chkE] at h
    refine TrE.unstrip ?_
    split at h
    · rename_i w; rw [w]
      simp only [Bool.and_eq_true, decide_eq_true_eq] at h
      obtain ⟨⟨rfl, h2⟩, h3⟩ := h
      exact .bin o (chkE_ok a h2) (chkE_ok b h3)
    · cases h
  | .neg a, sc, e, h => by
    simp only [chkE] at h
    refine TrE.unstrip ?_
    split at h
    · rename_i w; rw [w]; exact .neg (chkE_ok a h)
    · cases h
  | .not a, sc, e, h => by
    simp only [chkE] at h
    refine TrE.unstrip ?_
    split at h
    · rename_i w; rw [w]; exact .not (chkE_ok a h)
    · cases h
  | .cmp o a b, sc, e, h => by
    simp only [chkE] at h
    refine TrE.unstrip ?_
    split at h
    · rename_i w; rw [w]
      simp only [Bool.and_eq_true, decide_eq_true_eq] at h
      obtain ⟨⟨rfl, h2⟩, h3⟩ := h
      exact .cmp o (chkE_ok a h2) (chkE_ok b h3)
    · cases h
  | .chain o o' a b d, sc, e, h => by
    simp only [chkE] at h
    refine TrE.unstrip ?_
    split at h
    · rename_i w; rw [w]
      simp only [Bool.and_eq_true, decide_eq_true_eq] at h
      obtain ⟨⟨⟨⟨rfl, rfl⟩, h2⟩, h3⟩, h4⟩ := h
      exact .chain o o' (chkE_ok a h2) (chkE_ok b h3) (chkE_ok d h4)
    · cases h
  | .and a b, sc, e, h => by
    simp only [chkE] at h
    refine TrE.unstrip ?_
    split at h
    · rename_i w; rw [w]
      simp only [Bool.and_eq_true] at h
      exact .and (chkE_ok a h.1) (chkE_ok b h.2)
    · cases h
  | .or a b, sc, e, h => by
    simp only [chkE] at h
    refine TrE.unstrip ?_
    split at h
    · rename_i w; rw [w]
      simp only [Bool.and_eq_true] at h
      exact .or (chkE_ok a h.1) (chkE_ok b h.2)
    · cases h
  | .ite t a b, sc, e, h => by
    simp only [chkE] at h
    refine TrE.unstrip ?_
    split at h
    · rename_i w; rw [w]
      simp only [Bool.and_eq_true] at h
      exact .ite (chkE_ok t h.1.1) (chkE_ok a h.1.2) (chkE_ok b h.2)
    · cases h
  | .tup xs, sc, e, h => by
    simp only [chkE] at h
    refine TrE.unstrip ?_
    split at h
    · rename_i w; rw [w]
      simp only [Bool.and_eq_true, decide_eq_true_eq] at h
      exact .tup (chkEs_ok xs h.1) h.2
    · cases h
  | .lst xs, sc, e, h => by
    simp only [chkE] at h
    refine TrE.unstrip ?_
    split at h
    · rename_i w; rw [w]
      simp only [Bool.and_eq_true, decide_eq_true_eq] at h
      exact .lst (chkEs_ok xs h.1) h.2
    · cases h
  | .lstM xs, sc, e, h => by
    simp only [chkE] at h
    refine TrE.unstrip ?_
    split at h
    · rename_i w; rw [w]
      simp only [Bool.and_eq_true, decide_eq_true_eq] at h
      exact .lstM (chkEs_ok xs h.1) h.2
    · cases h
  | .call k xs, sc, e, h => by
    simp only [chkE] at h
    refine TrE.unstrip ?_
    split at h
    · rename_i x p es pos w; rw [w]
      simp only [Bool.and_eq_true, decide_eq_true_eq] at h
      obtain ⟨⟨⟨h1, h2⟩, h3⟩, h4⟩ := h
      cases es with
      | nil =>
        have e4 := chkEs_ok xs h4
        cases e4
        exact .call0 (gbB_ok h1) h2 (dbg_ok h3)
      | cons a r => exact .call (gbB_ok h1) h2 (dbg_ok h3) (chkEs_ok xs h4)
    · rename_i x p kws pos hne w; rw [w]
      simp only [Bool.and_eq_true, decide_eq_true_eq] at h
      obtain ⟨⟨⟨⟨⟨h1, h2⟩, h3⟩, h4⟩, h5⟩, h6⟩ := h
      cases kws with
      | nil =>
        have e4 := chkEs_ok xs h6
        simp only [List.map_nil] at e4
        cases e4
        exact .call0 (gbB_ok h1) h2 (dbg_ok h3)
      | cons q kws => exact .callK (gbB_ok h1) h2 h4 (dbg_ok h3) (chkKs_ok h5 (chkEs_ok xs h6))
    · cases h
  | .bi f xs, sc, e, h => by
    simp only [chkE] at h
    refine TrE.unstrip ?_
    split at h
    · rename_i w; rw [w]
      simp only [Bool.and_eq_true] at h
      exact biPre_ok h.1 (chkEs_ok xs h.2)
    · cases h
  | .ix a b, sc, e, h => by
    simp only [chkE] at h
    refine TrE.unstrip ?_
    split at h
    · rename_i w; rw [w]
      simp only [Bool.and_eq_true] at h
      exact .ix (chkE_ok a h.1) (chkE_ok b h.2)
    · cases h
  | .dix ks vs i, sc, e, h => by
    simp only [chkE] at h
    refine TrE.unstrip ?_
    split at h
    · rename_i w; rw [w]
      simp only [Bool.and_eq_true, decide_eq_true_eq, Bool.not_eq_true'] at h
      obtain ⟨⟨⟨⟨⟨⟨h1, h2⟩, h3⟩, h4⟩, h5⟩, h6⟩, h7⟩ := h
      exact .dix h1 h2 h3 (fun z => by rw [z] at h4; cases h4) h5 (chkEs_ok vs h6) (chkE_ok i h7)
    · cases h
  | .slice a lo hi, sc, e, h => by
    simp only [chkE] at h
    refine TrE.unstrip ?_
    split at h
    · rename_i w; rw [w]
      simp only [Bool.and_eq_true] at h
      exact .slice (chkE_ok a h.1.1) (chkO_ok (chkEs_ok lo h.1.2)) (chkO_ok (chkEs_ok hi h.2))
    · cases h
  | .lc t is it e1 cs, sc, e, h => by
    simp only [chkE] at h
    refine TrE.unstrip ?_
    split at h
    · rename_i w; rw [w]
      simp only [Bool.and_eq_true, decide_eq_true_eq] at h
      obtain ⟨⟨⟨⟨⟨⟨⟨h1, h2⟩, h3⟩, h4⟩, h5⟩, h6⟩, h7⟩, h8⟩ := h
      have z := TrE.lc (p := ‹Pos›) (ownOf N is) h2 (chkT_ok h3) (chkE_ok it h4) (chkE_ok e1 h5) (chkEs_ok cs h6) h7 (by rw [h1]; exact h8)
      rw [h1] at z
      exact z
    · cases h
  | .lcR i is n e1 cs, sc, e, h => by
    simp only [chkE] at h
    refine TrE.unstrip ?_
    split at h
    · rename_i w; rw [w]
      simp only [Bool.and_eq_true, decide_eq_true_eq] at h
      obtain ⟨⟨⟨⟨⟨⟨⟨⟨⟨⟨h1, h2⟩, h3⟩, rfl⟩, h5⟩, h6⟩, h7⟩, h8⟩, h9⟩, h10⟩, h11⟩ := h
      have ht := chkT_ok h3
      cases ht with
      | n k1 k2 k3 =>
        clear h3
        generalize ownOf N is = own at h1 h2
        subst h1
        exact .lcR own h2 (TrT.n k1 k2 k3) (inB_ok h5) (gbB_ok h6) (chkE_ok n h7) (chkE_ok e1 h8) (chkEs_ok cs h9) h10 h11
    · cases h
theorem chkEs_ok : ∀ (i : Exs) {sc : Scope} {es : List Expr}, chkEs g N i sc es = true → TrEs g N sc es i
  | .nil, sc, es, h => by
    simp only [chkEs] at h
    cases es with
    | nil => exact .nil
    | cons _ _ => cases h
  | .cons a r, sc, es, h => by
    simp only [chkEs] at h
    split at h
    · simp only [Bool.and_eq_true] at h
      exact .cons (chkE_ok a h.1) (chkEs_ok r h.2)
    · cases h
end
end
end Pv
set_option Elab.async false
set_option maxRecDepth 100000
set_option linter.unusedVariables false
/-! Pv15: the check for statements. -/
namespace Pv
open PySem PySem.Spec PyProof.Rows L2
def chkSet (sc : Scope) (x : Str) (py : Pos) (e : Expr) : Bool :=
  if notComp e then locB sc x else (match e with
    | .ListComp _ _ scope p => kB sc x .local && decide (sc.kind = .function) && (py.line == p.line) && !(scope.names.any fun (n, k) => n == x && (k == .local || k == .cell))
    | _ => false)
def chkPar (N : List Str) (sc : Scope) (i j : Nat) (x y : Str) (px py : Pos) (a b : Expr) : Bool :=
  decide (N[i]? = some x) && decide (N[j]? = some y) && decide (i ≠ j) && decide (sc.kind = .function) && kB sc x .local && kB sc y .local && (py.line == px.line) && decide (x ≠ y) && (!isStar a && !isStar b && !(foldedForSure 8 a && foldedForSure 8 b) && !(constantsAlone 8 a && constantsAlone 8 b))
def chkPar3 (N : List Str) (sc : Scope) (i j l : Nat) (x y z : Str) (px py pz : Pos) (a b c : Expr) : Bool :=
  decide (N[i]? = some x) && decide (N[j]? = some y) && decide (N[l]? = some z) && decide (i ≠ j) && decide (i ≠ l) && decide (j ≠ l) && decide (sc.kind = .function) && kB sc x .local && kB sc y .local && kB sc z .local && (py.line == px.line) && (pz.line == px.line) && decide (x ≠ y) && decide (x ≠ z) && decide (y ≠ z) &&
    (!isStar a && !isStar b && !isStar c && !(foldedForSure 8 a && (foldedForSure 8 b && foldedForSure 8 c)) && !(constantsAlone 8 a && (constantsAlone 8 b && constantsAlone 8 c)))
def chkUnp (es : List Expr) (e : Expr) : Bool := notTup e || (match e with
  | .Tuple vs _ _ => (!(es.length == 2 || es.length == 3) || vs.length != es.length) || (vs.any isStar || vs.all (foldedForSure 8))
  | _ => false)
def appBase : Expr → Bool
  | .Call (.Name _ _) [] [] _ => false
  | _ => true
mutual
def chkS (g : Stat) (N : List Str) (sc : Scope) : Sm → Stmt → Bool
  | .set i e', s => (match s with
    | .Assign [.Name x py] e _ => decide (N[i]? = some x) && chkE g N e' sc e && chkSet sc x py e
    | _ => false)
  | .par i j a b, s => (match s with
    | .Assign [.Tuple [.Name x px, .Name y py] _ _] (.Tuple [ea, eb] _ _) _ => chkPar N sc i j x y px py ea eb && chkE g N a sc ea && chkE g N b sc eb
    | _ => false)
  | .par3 i j l a b c, s => (match s with
    | .Assign [.Tuple [.Name x px, .Name y py, .Name z pz] _ _] (.Tuple [ea, eb, ec] _ _) _ => chkPar3 N sc i j l x y z px py pz ea eb ec && chkE g N a sc ea && chkE g N b sc eb && chkE g N c sc ec
    | _ => false)
  | .unp is e', s => (match s with
    | .Assign [.Tuple es _ _] e _ => chkTs N sc sc is es && chkE g N e' sc e && chkUnp es e
    | _ => false)
  | .six a i e', s => (match s with
    | .Assign [.Subscript o j _] e _ => chkE g N a sc o && chkE g N i sc j && chkE g N e' sc e
    | _ => false)
  | .ret e', s => (match s with
    | .Return (some e) _ => chkE g N e' sc e
    | _ => false)
  | .retN, s => (match s with
    | .Return none _ => true
    | _ => false)
  | .ife t a b, s => (match s with
    | .If c p q _ => chkE g N t sc c && chkSs g N sc a p && chkSs g N sc b q
    | _ => false)
  | .whl t b, s => (match s with
    | .While c p [] _ => chkE g N t sc c && chkSs g N sc b p
    | _ => false)
  | .for_ t it b, s => (match s with
    | .For tg e p [] _ => chkT N sc sc t tg && chkE g N it sc e && chkSs g N sc b p
    | _ => false)
  | .forR i n b, s => (match s with
    | .For tg (.Call (.Name r _) [e] [] _) p [] _ => chkT N sc sc (.n i) tg && decide (r = ("range" : Str)) && inB "range" g.bl && kB sc "range" .globalImplicit && chkE g N n sc e && chkSs g N sc b p
    | _ => false)
  | .expr e', s => (match s with
    | .Expr e _ => chkE g N e' sc e && notComp e
    | _ => false)
  | .app a e', s => (match s with
    | .Expr (.Call (.Attribute o n ap) [e] [] cp) _ => decide (n = ("append" : Str)) && chkE g N a sc o && chkE g N e' sc e && (ap.endLine == cp.line) && appBase o
    | _ => false)
  | .pass, s => (match s with
    | .Pass _ => true
    | .Expr (.Constant (.str _) _ _) _ => true
    | _ => false)
  | .brk, s => (match s with
    | .Break _ => true
    | _ => false)
  | .cont, s => (match s with
    | .Continue _ => true
    | _ => false)
  | .raise _ _, s => (match s with
    | .Raise _ none _ => true
    | _ => false)
def chkSs (g : Stat) (N : List Str) (sc : Scope) : Ss → List Stmt → Bool
  | .nil, s => s.isEmpty
  | .cons a r, s => (match s with
    | x :: xs => chkS g N sc a x && chkSs g N sc r xs
    | [] => false)
end
section
variable {g : Stat} {N : List Str} {sc : Scope}
theorem chkSet_ok {x : Str} {py pos : Pos} {e : Expr} {i : Nat} {e' : Ex} (h1 : N[i]? = some x) (h2 : TrE g N sc e e') (h : chkSet sc x py e = true) : TrS g N sc (.Assign [.Name x py] e pos) (.set i e') := by
  unfold chkSet at h
  split at h
  · exact .set h1 (locB_ok h) h2 ‹_›
  · split at h
    · simp only [Bool.and_eq_true, decide_eq_true_eq, kB, Bool.not_eq_true'] at h
      obtain ⟨⟨⟨k1, k2⟩, k3⟩, k4⟩ := h
      cases h2 with
      | lc own hb ht hi he hc h1' hin => exact .setLc own h1 k1 k2 k3 k4 hb ht hi he hc h1' hin
      | lcR own hb ht hl2 h2 hn he hc h1' hin => exact .setLcR own h1 k1 k2 k3 k4 hb ht hl2 h2 hn he hc h1' hin
    · cases h
theorem chkUnp_ok {es : List Expr} {k : Nat} {p : Pos} {e : Expr} (h : chkUnp es e = true) (env : Env) : swappedStores [.Tuple es k p] e env = pure none := by
  unfold chkUnp at h
  cases q : notTup e with
  | true => exact swapped_no q _ env
  | false =>
    rw [q, Bool.false_or] at h
    split at h
    · cases w : (!(es.length == 2 || es.length == 3) || List.length _ != es.length) with
      | true => exact swapped_len w env
      | false => rw [w, Bool.false_or] at h; exact swapped_folded h env
    · cases h
mutual
theorem chkS_ok : ∀ (i : Sm) {s : Stmt}, chkS g N sc i s = true → TrS g N sc s i
  | .set i e', s, h => by
    simp only [chkS] at h
    split at h
    · simp only [Bool.and_eq_true, decide_eq_true_eq] at h
      exact chkSet_ok h.1.1 (chkE_ok e' h.1.2) h.2
    · cases h
  | .par i j a b, s, h => by
    simp only [chkS] at h
    split at h
    · simp only [chkPar, kB, Bool.and_eq_true, decide_eq_true_eq] at h
      obtain ⟨⟨⟨⟨⟨⟨⟨⟨⟨⟨k1, k2⟩, k3⟩, k4⟩, k5⟩, k6⟩, k7⟩, k8⟩, k9⟩, ha⟩, hb⟩ := h
      exact .par k1 k2 k3 k4 k5 k6 k7 k8 (chkE_ok a ha) (chkE_ok b hb) (by simp only [Bool.and_eq_true]; exact k9)
    · cases h
  | .par3 i j l a b c, s, h => by
    simp only [chkS] at h
    split at h
    · simp only [Bool.and_eq_true] at h
      obtain ⟨⟨⟨h, ha⟩, hb⟩, hc⟩ := h
      unfold chkPar3 at h
      rw [Bool.and_eq_true] at h
      obtain ⟨h, k16⟩ := h
      simp only [kB, Bool.and_eq_true, decide_eq_true_eq] at h
      obtain ⟨⟨⟨⟨⟨⟨⟨⟨⟨⟨⟨⟨⟨⟨k1, k2⟩, k3⟩, k4⟩, k5⟩, k6⟩, k7⟩, k8⟩, k9⟩, k10⟩, k11⟩, k12⟩, k13⟩, k14⟩, k15⟩ := h
      exact .par3 k1 k2 k3 k4 k5 k6 k7 k8 k9 k10 k11 k12 k13 k14 k15 (chkE_ok a ha) (chkE_ok b hb) (chkE_ok c hc) k16
    · cases h
  | .unp is e', s, h => by
    simp only [chkS] at h
    split at h
    · simp only [Bool.and_eq_true] at h
      exact .unp (chkTs_ok h.1.1) (chkE_ok e' h.1.2) fun env _ => chkUnp_ok h.2 env
    · cases h
  | .six a i e', s, h => by
    simp only [chkS] at h
    split at h
    · simp only [Bool.and_eq_true] at h
      exact .six (chkE_ok a h.1.1) (chkE_ok i h.1.2) (chkE_ok e' h.2)
    · cases h
  | .ret e', s, h => by
    simp only [chkS] at h
    split at h
    · exact .ret (chkE_ok e' h)
    · cases h
  | .retN, s, h => by
    simp only [chkS] at h
    split at h
    · exact .retN
    · cases h
  | .ife t a b, s, h => by
    simp only [chkS] at h
    split at h
    · simp only [Bool.and_eq_true] at h
      exact .ife (chkE_ok t h.1.1) (chkSs_ok a h.1.2) (chkSs_ok b h.2)
    · cases h
  | .whl t b, s, h => by
    simp only [chkS] at h
    split at h
    · simp only [Bool.and_eq_true] at h
      exact .whl (chkE_ok t h.1) (chkSs_ok b h.2)
    · cases h
  | .for_ t it b, s, h => by
    simp only [chkS] at h
    split at h
    · simp only [Bool.and_eq_true] at h
      exact .for_ (chkT_ok h.1.1) (chkE_ok it h.1.2) (chkSs_ok b h.2)
    · cases h
  | .forR i n b, s, h => by
    simp only [chkS] at h
    split at h
    · simp only [Bool.and_eq_true, decide_eq_true_eq] at h
      obtain ⟨⟨⟨⟨⟨h1, rfl⟩, h3⟩, h4⟩, h5⟩, h6⟩ := h
      have ht := chkT_ok h1
      cases ht with
      | n k1 k2 k3 => exact .forR (.n k1 k2 k3) (inB_ok h3) (gbB_ok h4) (chkE_ok n h5) (chkSs_ok b h6)
    · cases h
  | .expr e', s, h => by
    simp only [chkS] at h
    split at h
    · simp only [Bool.and_eq_true] at h
      exact .expr (chkE_ok e' h.1) h.2
    · cases h
  | .app a e', s, h => by
    simp only [chkS] at h
    split at h
    · simp only [Bool.and_eq_true, decide_eq_true_eq] at h
      obtain ⟨⟨⟨⟨rfl, h2⟩, h3⟩, h4⟩, h5⟩ := h
      exact .app (chkE_ok a h2) (chkE_ok e' h3) h4 h5
    · cases h
  | .pass, s, h => by
    simp only [chkS] at h
    split at h
    · exact .pass
    · exact .doc
    · cases h
  | .brk, s, h => by
    simp only [chkS] at h
    split at h
    · exact .brk
    · cases h
  | .cont, s, h => by
    simp only [chkS] at h
    split at h
    · exact .cont
    · cases h
  | .raise _ _, s, h => by
    simp only [chkS] at h
    split at h
    · exact .raise
    · cases h
theorem chkSs_ok : ∀ (i : Ss) {s : List Stmt}, chkSs g N sc i s = true → TrSs g N sc s i
  | .nil, s, h => by
    simp only [chkSs] at h
    cases s with
    | nil => exact .nil
    | cons _ _ => cases h
  | .cons a r, s, h => by
    simp only [chkSs] at h
    split at h
    · simp only [Bool.and_eq_true] at h
      exact .cons (chkS_ok a h.1) (chkSs_ok r h.2)
    · cases h
end
end
end Pv
set_option Elab.async false
set_option maxRecDepth 100000
set_option linter.unusedVariables false
/-! Pv16: defs. -/
namespace Pv
open PySem PySem.Spec PyProof.Rows L2
structure DefI where
  name : Str
  st : Stmt
  N : List Str
  fn : Fn
  kw : Bool := false
def DefI.ps (i : DefI) : List Str := i.N.take i.fn.np
def tabT (ds : List DefI) (k : Nat) : Option Fn := ds[k]?.map (·.fn)
def statOf (ds : List DefI) (G : Str → Option PyData) (im : Str → Option String) (bl : List Str) : Stat where
  G := G
  F := fun x => ds.findIdx? fun i => decide (i.name = x)
  ps := fun k => ((ds[k]?).map DefI.ps).getD []
  kw := fun k => ((ds[k]?).map DefI.kw).getD false
  im := im
  bl := bl
/-- what a text says of a def -/
structure DefS (g : Stat) (i : DefI) : Prop where
  sc : FnScope i.N i.ps (defScope i.st)
  body : chkSs g i.N (defScope i.st) i.fn.body (defBody i.st) = true
  nn : i.fn.nn = i.N.length
  np : i.ps.length = i.fn.np
  b1 : ∀ (kV doc pm : Value) (an : Option Addr) (cdv ct : Value) (us : List Value), us.length = i.ps.length → bindArgs (PySem.W.fnOf i.name i.name (defArgs i.st) (defBody i.st) (defScope i.st) .none kV doc pm an cdv ct) ⟨us, []⟩ = pure (i.ps.zip us)
  b2 : i.kw = true → ∀ (kV doc pm : Value) (an : Option Addr) (cdv ct : Value) (us : List Value), us.length = i.ps.length → bindArgs (PySem.W.fnOf i.name i.name (defArgs i.st) (defBody i.st) (defScope i.st) .none kV doc pm an cdv ct) ⟨[], i.ps.zip us⟩ = pure (i.ps.zip us)
theorem enr_start {K : PySem.W.Frag} {H : Hp} {m av : List Addr} : ∀ {as : List A} {vs : List V}, RepAs K H m av as vs → ∀ n, EnR K H m av (as.map some ++ List.replicate n none) (vs.map some ++ List.replicate n none)
  | _, _, .nil, 0 => .nil
  | _, _, .nil, n + 1 => .emp (enr_start .nil n)
  | _, _, .cons h r, n => .val h (enr_start r n)
section
variable {P : Program} {w : World} {K : PySem.W.Frag} {mg : Str → Option Value} {base : Heap} {fuel : Nat}
theorem frz_rep {m av ms : List Addr} {H H1 : Hp} {S S2 : Sto} {a a' : A} {v : V} (R : Rel K m av H S) (E1 : Evo m H ms H1) (R1 : Rel K (m ++ ms) (av ++ ms) H1 S2) (r1 : RepA K H1 (m ++ ms) (av ++ ms) a v) (e : frz S2 S.length a = some a') : RepA K H1 m av a' v := by
  cases a with
  | d x =>
    simp only [frz, Option.some.injEq] at e
    subst e
    exact Rep.less (fun b hb => List.mem_append_left _ hb) (show Rep K H1 (av ++ ms) x v from r1)
  | ref i =>
    obtain ⟨p, h1, rfl⟩ := r1
    simp only [frz] at e
    split at e
    · rename_i hi
      simp only [Option.some.injEq] at e
      subst e
      refine ⟨p, ?_, rfl⟩
      rw [List.getElem?_append_left (by rw [← R.len]; exact hi)] at h1
      exact h1
    · rename_i hi
      cases q : S2[i]? with
      | none => rw [q] at e; cases e
      | some o =>
        cases o with
        | lst ds =>
          rw [q] at e
          simp only [Option.some.injEq] at e
          subst e
          obtain ⟨b, vs, h2, h3, h4⟩ := R1.at_ q
          rw [h1] at h2; cases h2
          refine Rep.lstH (.inl h3) (fun z => ?_) (RepAll.less (fun b hb => List.mem_append_left _ hb) h4)
          have hm : p ∈ ms := by
            rw [List.getElem?_append_right (by rw [← R.len]; omega)] at h1
            exact List.mem_of_getElem? h1
          have e0 := E1.new p hm
          obtain ⟨u, hu⟩ := R.live p z
          rw [hu] at e0; cases e0
theorem fin_post {m av : List Addr} {H : Hp} {S : Sto} {keep : Bool} {r : Pv.R Fl} {Q : VK} (R : Rel K m av H S) (Pp : PostA K m av H (outOf keep S.length r) Q) : PostS K m av H r { nx := fun _ H' => Q .non H', rt := Q } := by
  have go : ∀ (a : A) (S2 : Sto), PostA K m av H (fin keep S.length a S2) Q → ∀ ms H1 v, Evo m H ms H1 → Rel K (m ++ ms) (av ++ ms) H1 S2 → RepA K H1 (m ++ ms) (av ++ ms) a v → Q v H1 := by
    intro a S2 Pp ms H1 v E1 R1 r1
    unfold fin at Pp
    split at Pp
    · exact Pp ms H1 v E1 R1 r1
    · cases q : frz S2 S.length a with
      | none => rw [q] at Pp; exact Pp.elim
      | some a' =>
        rw [q] at Pp
        have r2 := frz_rep R E1 R1 r1 q
        have R2 := R.drop R1 E1 R.len
        exact Pp [] H1 v ⟨E1.keep, fun _ h => nomatch h⟩ (by rw [List.append_nil, List.append_nil]; exact R2) (by rw [List.append_nil, List.append_nil]; exact r2)
  cases r with
  | no => exact Pp.elim
  | ex _ _ _ => exact Pp.elim
  | ok f S2 =>
    intro ms H1 v E1 R1 r1
    cases f with
    | nx σd =>
      cases v with
      | nx σ => exact go (.d .none) S2 Pp ms H1 .non E1 R1 Rep.non
      | _ => exact r1.elim
    | rt a =>
      cases v with
      | rt v => exact go a S2 Pp ms H1 v E1 R1 r1
      | _ => exact r1.elim
    | bk σd => exact Pp.elim
    | ct σd => exact Pp.elim
end
end Pv
set_option Elab.async false
set_option maxRecDepth 100000
set_option linter.unusedVariables false
/-! Pv17: a table of defs does what the expressions say. -/
namespace Pv
open PySem PySem.Spec PyProof.Rows L2
/-- what the top has written of the table -/
structure TabK (g : Stat) (ds : List DefI) (K : PySem.W.Frag) (mg : Str → Option Value) : Prop where
  defs : ∀ (k : Nat) (i : DefI), ds[k]? = some i → ∃ f fd, mg i.name = some (.ref f) ∧ Fun K i.name i.name i.st f fd
  glob : ∀ x dt, g.G x = some dt → ∃ u v, mg x = some u ∧ RelV v u ∧ ∀ H av, Rep K H av dt v
  bl : ∀ x ∈ g.bl, mg x = none
  im : ∀ x id, g.im x = some id → mg x = some (.builtin id)
section
variable {P : Program} {w : World} {K : PySem.W.Frag} {mg : Str → Option Value} {base : Heap} {fuel : Nat} {ds : List DefI} {G : Str → Option PyData} {im : Str → Option String} {bl : List Str}
theorem statF {x : Str} {k : Nat} (h : (statOf ds G im bl).F x = some k) : ∃ i, ds[k]? = some i ∧ i.name = x := by
  have h : ds.findIdx? (fun i => decide (i.name = x)) = some k := h
  rw [List.findIdx?_eq_some_iff_getElem] at h
  obtain ⟨hk, h1, _⟩ := h
  exact ⟨ds[k], List.getElem?_eq_getElem hk, of_decide_eq_true h1⟩
theorem fn_ok (hS : ∀ (k : Nat) (i : DefI), ds[k]? = some i → DefS (statOf ds G im bl) i) (hK : TabK (statOf ds G im bl) ds K mg) (d : Nat)
    (ih : ∀ (k : Nat) (i : DefI) (f : Addr) (fd : FuncData), ds[k]? = some i → mg i.name = some (.ref f) → Fun K i.name i.name i.st f fd → FnD P w K mg base d (callF (tabT ds) fuel d k) f i.ps i.kw) {k : Nat} {i : DefI} {f : Addr} {fd : FuncData} (hk : ds[k]? = some i) (hf : mg i.name = some (.ref f)) (F : Fun K i.name i.name i.st f fd) :
    FnD P w K mg base (d + 1) (callF (tabT ds) fuel (d + 1) k) f i.ps i.kw := by
  have S := hS k i hk
  obtain ⟨oc, od, kV, doc, pm, an, cdv, ct, osl, rfl, lk, hcd⟩ := F.ex
  refine ⟨_, fun s us hl => .of_eq (S.b1 kV doc pm an cdv ct us hl), fun hkw s us hl => .of_eq (S.b2 hkw kV doc pm an cdv ct us hl), ?_⟩
  intro A' outer s H args us vs as m av S0 Q hr hgd e0 hb hl r ra Rl Pp
  have hlv : vs.length = i.ps.length := by rw [r.length]; exact hl
  have hla : as.length = i.fn.np := by rw [ra.length, hlv]; exact S.np
  have eT : tabT ds k = some i.fn := by unfold tabT; rw [hk]; rfl
  have Pp : PostA K m av H (outOf i.fn.keep S0.length (sts ⟨callF (tabT ds) fuel d, fuel⟩ i.fn.body (Pv.start i.fn.nn as) S0)) Q := by
    have := Pp
    simp only [callF, eT, hla, if_true] at this
    exact this
  have KX : K.In s.heap := e0.mod.kin.keeps fun b o e => (e0.bs b o e).1
  have lim : s.heap.NoLimit := e0.mod.nolimit.keeps fun b o e => (e0.bs b o e).1
  have hkind : ∀ y ∈ i.ps.zip us, (defScope i.st).names.lookup y.1 = some .local ∨ ((defScope i.st).names.lookup y.1 = some .cell ∧ ((cellsFrom (s.heap.objs.size + 1) (defScope i.st).names []).lookup y.1).isSome = true) := fun ⟨n, v⟩ hy => by
    rcases S.sc.par n (List.of_mem_zip hy).1 with q | q
    · exact .inl q
    · exact .inr ⟨q, PySem.W.cellsFrom_some _ _ _ (.inl q)⟩
  refine codeAny_call_function hr.depth (KX _ _ lk) rfl S.sc.co S.sc.gen rfl (PySem.W.codeRec_of KX hcd) (hb _ _ _ _ ?_)
  refine wpAny_newFunctionEnv_cells S.sc.kind hkind fun env he s1 x => ?_
  subst he
  refine ⟨lim.keeps x.toInCall.keep, codeAny_func ?_⟩
  let X0 : Cx := cxOf CX0 P w K mg base i.N i.name (defScope i.st) f cdv A' outer s H E0
  have I : Inv X0 [] (L2.start i.N vs) H s1 := inv_start S.sc hr.hd e0 hlv r x
  have ok : XOkS (statOf ds G im bl) i.N (defScope i.st) d ⟨callF (tabT ds) fuel d, fuel⟩ X0.nox := by
    refine ⟨⟨rfl, rfl, S.sc.nd, hr.deeper _, hgd, rfl, hK.glob, hK.bl, hK.im, fun y n hn => ?_⟩, fun _ => rfl, rfl⟩
    obtain ⟨j, hj, rfl⟩ := statF hn
    obtain ⟨fj, fdj, h1, h2⟩ := hK.defs n j hj
    have e1 : (statOf ds G im bl).ps n = j.ps := by
      show ((ds[n]?).map DefI.ps).getD [] = _
      rw [hj]; rfl
    have e2 : (statOf ds G im bl).kw n = j.kw := by
      show ((ds[n]?).map DefI.kw).getD false = _
      rw [hj]; rfl
    refine ⟨fj, h1, h2.kp, by rw [e1, e2]; exact ih n j fj fdj hj h1 h2, fun bs T hb => ?_⟩
    rw [e1] at hb
    have eTj : tabT ds n = some j.fn := by unfold tabT; rw [hj]; rfl
    show callF (tabT ds) fuel d n bs T = .no
    cases d with
    | zero => rfl
    | succ d =>
      simp only [callF, eTj]
      rw [if_neg (by rw [← (hS n j hj).np]; exact hb)]
  have En : EnR K H m av (Pv.start i.fn.nn as) (L2.start i.N vs) := by
    unfold Pv.start L2.start
    rw [S.nn, ra.length]
    exact enr_start ra _
  have body := (chkSs_ok _ S.body).snds (d := d) (c := ⟨callF (tabT ds) fuel d, fuel⟩) X0.nox ok _ (L2.start i.N vs) H m av S0 { nx := fun _ H' => Q .non H', rt := Q } En Rl (fin_post Rl Pp)
  have ht : PSs X0 (defBody i.st) (wss X0.nox (defBody i.st)) := PSs.nox pss_wss
  refine wpAny_mono (ht.run [] s1 (L2.start i.N vs) H _ I body) (fun fl s' hs => ?_) fun e s' hs => hs
  have fin : ∀ {σ' : L2.St} {H' : Hp} {v : V} {u : Value}, Inv X0 [] σ' H' s' → RelV v u → Q v H' → CE outer P w H s Q u s' :=
    fun {σ' H' v u} J rv q => ⟨v, H', J.os, J.bare, J.base, J.hok, rv, q⟩
  cases fl with
  | ret u =>
    obtain ⟨v, σ', H', J, rv, q⟩ := hs
    exact fin J rv q
  | next =>
    obtain ⟨σ', H', J, q⟩ := hs
    exact fin (v := V.non) (u := Value.none) J rfl q
  | brk =>
    obtain ⟨_, _, _, q⟩ := hs
    exact False.elim q
  | cont =>
    obtain ⟨_, _, _, q⟩ := hs
    exact False.elim q
theorem tab_ok (hS : ∀ (k : Nat) (i : DefI), ds[k]? = some i → DefS (statOf ds G im bl) i) (hK : TabK (statOf ds G im bl) ds K mg) : ∀ (d k : Nat) (i : DefI) (f : Addr) (fd : FuncData), ds[k]? = some i → mg i.name = some (.ref f) → Fun K i.name i.name i.st f fd → FnD P w K mg base d (callF (tabT ds) fuel d k) f i.ps i.kw
  | 0, k, i, f, fd, hk, hf, F => by
    obtain ⟨oc, od, kV, doc, pm, an, cdv, ct, osl, rfl, lk, hcd⟩ := F.ex
    have S := hS k i hk
    refine ⟨_, fun s us hl => .of_eq (S.b1 kV doc pm an cdv ct us hl), fun hkw s us hl => .of_eq (S.b2 hkw kV doc pm an cdv ct us hl), ?_⟩
    intro A' outer s H args us vs as m av S0 Q hr hgd e0 hb hl r ra Rl Pp
    exact Pp.elim
  | d + 1, k, i, f, fd, hk, hf, F => fn_ok hS hK d (fun k i f fd => tab_ok hS hK d k i f fd) hk hf F
end
end Pv
set_option Elab.async false
set_option maxRecDepth 100000
set_option linter.unusedVariables false
/-! Pv18: the law's head. -/
namespace Pv
open PySem PySem.Spec PyProof.Rows L2
/-- the law's call from the claim's caller -/
theorem law_run {P : Program} {w : World} {K : PySem.W.Frag} {mg mb : Str → Option Value} {fa a : Addr} {s₁ : Shared} {vs : List Value} {ns : List Int}
    (KX : K.In s₁.heap) (hns : s₁.heap.Ns mainGlobals mg) (hb : s₁.heap.Ns builtinsNs mb) (hbb : ∀ x : Str, x ≠ "__name__" → mb x = bootBuiltins x) (hlim : s₁.heap.NoLimit) (hg : s₁.gens = #[])
    (ha : s₁.heap.get? a = some { cls := .type "list", data := .seq vs.toArray }) (hi : IntsAre vs ns) (hl : ns.length ≤ sizeLine)
    (F : ∀ (base : Heap) (H : Hp), Env0 P w K mg base callerA [] s₁ H → SqL K H a (ns.map V.int) → codeAny (model P w) callerA (.call (.ref fa) ⟨[.ref a], []⟩) (CR CX0 [] P w H s₁ (fun v _ => v = .bl true) E0) s₁) :
    codeAny (model P w) callerA (.call (.ref fa) ⟨[.ref a], []⟩) (fun r s' => r = .ok (.ret (.bool true)) ∧ OldK s₁.heap s'.heap ∧ s'.os = s₁.os ∧ AllBare s'.gens) s₁ := by
  have rv := vals_ints hi
  have lenV := hi.length
  have core : ∀ H : Hp, Only H → SqL K H a (ns.map V.int) → HOk P w H s₁.heap → (∀ b, H b ≠ none → b = a) → (H a ≠ none → K.lookup a = none) →
      codeAny (model P w) callerA (.call (.ref fa) ⟨[.ref a], []⟩) (fun r s' => r = .ok (.ret (.bool true)) ∧ OldK s₁.heap s'.heap ∧ s'.os = s₁.os ∧ AllBare s'.gens) s₁ := by
    intro H hO hS hok hA hK
    have alone : ∀ {b : Addr} {u : HO}, H b = some u → b = a := fun {b u} q => hA b (by rw [q]; simp)
    have put : ∀ {b : Addr} {o : Obj}, s₁.heap.get? b = some o → H b = none → (hidT s₁.heap H).get? b = some o := fun e n => hidT_get e n
    have noD : ∀ {b : Addr} {o : Obj} {es : Array DictEntry} {ep : Nat}, s₁.heap.get? b = some o → o.data = .dict es ep → H b = none := fun {b o es ep} e d => by
      cases q : H b with
      | none => rfl
      | some u =>
        have e' := alone q
        subst e'
        rw [ha] at e; cases e
        exact nomatch (show Data.seq vs.toArray _ = Data.dict es ep from d)
    have nsK : ∀ {b : Addr} {m : Str → Option Value}, s₁.heap.Ns b m → (hidT s₁.heap H).Ns b m := fun {b m} ⟨o, es, ep, e, d, r⟩ => ⟨o, es, ep, put e (noD e d), d, r⟩
    have hKb : K.In (hidT s₁.heap H) := fun b o e => put (KX b o e) (by
      cases q : H b with
      | none => rfl
      | some u =>
        have e' := alone q
        subst e'
        rw [hK (by rw [q]; simp)] at e; cases e)
    have hM : Mod K mg (hidT s₁.heap H) := ⟨hKb, nsK hns, ⟨mb, nsK hb, hbb⟩, let ⟨mc, h1, h2⟩ := hlim; ⟨mc, nsK h1, h2⟩⟩
    have e0 : Env0 P w K mg (hidT s₁.heap H) callerA [] s₁ H := ⟨rfl, hM, fun b o e => of_hidT e, Nat.le_of_eq (hidT_size _ _), trivial, fun b hb => absurd (show b ∈ ([] : List Addr) from hb) (by simp), hok, .of_eq hg⟩
    refine codeAny_mono (F _ H e0 hS) fun r s' h => ?_
    cases r with
    | error e => exact (show False from h).elim
    | ok fl =>
      cases fl with
      | next => exact False.elim h
      | brk => exact False.elim h
      | cont => exact False.elim h
      | ret u =>
        obtain ⟨v, H', os, bare, un, hok', r', q⟩ := h
        have q' : v = .bl true := q
        subst q'
        obtain rfl : u = Value.bool true := r'
        refine ⟨rfl, OldK.of_keep fun b o e => ?_, os, bare⟩
        cases q : H b with
        | none => exact un.keep b o e q (by intro z; exact absurd (show b ∈ ([] : List Addr) from z) (by simp)) (by simp)
        | some u =>
          rcases hO b with z | ⟨ob, xs, z⟩
          · rw [q] at z; cases z
          · have z2 := un.frzs b ob _ z
            obtain ⟨e1, _⟩ := hok b _ z
            obtain ⟨e2, _⟩ := hok' b _ z2
            rw [e] at e1; cases e1
            exact e2
  cases hk : K.lookup a with
  | some o =>
    have e := KX a o hk
    rw [ha] at e
    cases e
    exact core (fun _ => none) (fun _ => .inl rfl) (.inr ⟨_, vs.toArray, _, hk, rfl, rfl, rfl, by rw [List.size_toArray, lenV]; exact hl, by simpa using rv⟩) (fun b u z => by have z' : (none : Option HO) = some u := z; cases z') (fun b z => absurd rfl z) fun z => absurd rfl z
  | none =>
    let H0 : Hp := fun b => if b = a then some (.frz { cls := .type "list", data := .seq vs.toArray } (.lst (ns.map V.int))) else none
    have at_ : H0 a = some (.frz { cls := .type "list", data := .seq vs.toArray } (.lst (ns.map V.int))) := if_pos rfl
    have off : ∀ {b : Addr}, b ≠ a → H0 b = none := fun hb => if_neg hb
    refine core H0 (fun b => ?_) (.inl (.inr ⟨{ cls := .type "list", data := .seq vs.toArray }, at_⟩)) (fun b u z => ?_) (fun b z => ?_) fun _ => hk
    · by_cases hb : b = a
      · exact .inr ⟨_, _, if_pos hb⟩
      · exact .inl (off hb)
    · by_cases hb : b = a
      · subst hb
        rw [at_] at z
        cases z
        exact ⟨ha, by rw [List.length_map]; exact hl, vs, _, rv, ha⟩
      · rw [off hb] at z; cases z
    · by_cases hb : b = a
      · exact hb
      · exact absurd (off hb) z
theorem scr_rep {K : PySem.W.Frag} {H : Hp} {a : Addr} {ns : List Int} (h : SqL K H a (ns.map V.int)) : Rep K H [] (.list (ns.map PyData.int)) (.ref a) := by
  have ra : ∀ ns : List Int, RepAll K H [] (ns.map PyData.int) (ns.map V.int) := fun ns => by
    induction ns with
    | nil => exact .nil
    | cons n ns ih => exact .cons (.int n) ih
  rcases h with h | h
  · exact .lstH h (by simp) (ra ns)
  · exact .lstK h (ra ns)
/-- THE LAW, by the table -/
theorem walk_tab {l : PySem.W.OpenLaw} {q : Program} {loose : List Str} {XP : (Str → Option Value) → Heap → Prop} {YP : World → Heap → Prop} {d : DefRec} {K : Params → PySem.W.Frag}
    {ds : List DefI} {G : Str → Option PyData} {im : Str → Option String} {bl : List Str} {n depth fuel k : Nat} {i : DefI}
    (hn : l.most = some n) (hn2 : n ≤ sizeLine) (hdf : d.params.defaults = []) (hr : Room depth callerA) (hk : ds[k]? = some i) (hnm : i.name = d.name) (hps : i.ps.length = 1)
    (hS : ∀ (k : Nat) (i : DefI), ds[k]? = some i → DefS (statOf ds G im bl) i)
    (hY : ∀ (w : World) (h : Heap), YP w h → (K w.params).In h)
    (hK : ∀ (w : World) (mg : Str → Option Value) (h : Heap), (K w.params).In h → h.Ns mainGlobals mg → TabK (statOf ds G im bl) ds (K w.params) mg)
    (law : ∀ ns : List Int, ns.length ≤ n → (∀ z ∈ ns, Builtin.Int.intBits z ≤ 1048576) → ∃ S, callF (tabT ds) fuel depth k [.d (.list (ns.map PyData.int))] [] = .ok (.d (.bool true)) S) :
    PySem.W.WalkO q loose XP YP l.row.toRowW d [] (fun f vs => PySem.call f vs) := by
  refine Att.attach_callB hn hdf fun w s₀ s₁ mg mb fa o pm cd doc a vs ns Gr Y ho hd hcd hmg hobj hints hlen hbits hg => ?_
  have KX := hY w _ Y
  have hT := hK w mg _ KX Gr.T.g
  obtain ⟨f, fd, hf, F⟩ := hT.defs k i hk
  have e : f = fa := by
    rw [hnm, hmg] at hf
    cases hf; rfl
  subst e
  refine law_run KX Gr.T.g Gr.T.b Gr.T.builtins Gr.T.nolimit hg hobj hints (Nat.le_trans hlen hn2) fun base H e0 hSq => ?_
  obtain ⟨fd', b1, _, run⟩ := tab_ok (P := l.prog) (w := w) (base := base) (fuel := fuel) hS hT depth k i f fd hk hf F
  obtain ⟨S', hlaw⟩ := law ns hlen hbits
  refine run callerA [] s₁ H ⟨[.ref a], []⟩ [.ref a] [.ref a] [.d (.list (ns.map PyData.int))] [] [] [] _ hr rfl e0 (b1 s₁ _ (by rw [hps]; rfl)) (by rw [hps]; rfl) (.cons rfl .nil) (.cons (scr_rep hSq) .nil) ⟨(fun _ h => nomatch h), (fun _ h => nomatch h), List.nodup_nil, .nil⟩ (post_ok hlaw fun ms H' v E1 R1 r1 => ?_)
  cases r1
  rfl
end Pv
set_option Elab.async false
set_option maxRecDepth 100000
set_option linter.unusedVariables false
/-! M0: how the expressions compute. -/
namespace Pv
open PySem L2
section
variable {a b : Int} {x y : PyData} {xs ys : List PyData} {s t : Str} {p q : Bool}
@[simp] theorem biD_len_l : biD .len [.list xs] = some (.int xs.length) := rfl
@[simp] theorem biD_len_t : biD .len [.tuple xs] = some (.int xs.length) := rfl
@[simp] theorem biD_abs : biD .abs [.int a] = some (.int (if a < 0 then -a else a)) := rfl
@[simp] theorem biD_int_i : biD .int [.int a] = some (.int a) := rfl
@[simp] theorem biD_int_b : biD .int [.bool p] = some (.int (bI p)) := rfl
@[simp] theorem biD_max : biD .max [.int a, .int b] = some (.int (if b > a then b else a)) := rfl
@[simp] theorem biD_min : biD .min [.int a, .int b] = some (.int (if b < a then b else a)) := rfl
@[simp] theorem biD_sum : biD .sum [.list xs] = (asInts xs).map fun ns => .int ns.sum := rfl
@[simp] theorem biD_all : biD .all [.list xs] = (asBools xs).map fun bs => .bool (bs.all id) := rfl
@[simp] theorem biD_any : biD .any [.list xs] = (asBools xs).map fun bs => .bool (bs.any id) := rfl
@[simp] theorem biD_isInt_i : biD .isInt [.int a] = some (.bool true) := rfl
@[simp] theorem biD_isInt_b : biD .isInt [.bool p] = some (.bool true) := rfl
@[simp] theorem biD_isInt_t : biD .isInt [.tuple xs] = some (.bool false) := rfl
@[simp] theorem biD_isInt_l : biD .isInt [.list xs] = some (.bool false) := rfl
@[simp] theorem biD_isInt_n : biD .isInt [.none] = some (.bool false) := rfl
@[simp] theorem biD_isBool_b : biD .isBool [.bool p] = some (.bool true) := rfl
@[simp] theorem biD_isBool_i : biD .isBool [.int a] = some (.bool false) := rfl
@[simp] theorem biD_isTup_t : biD .isTup [.tuple xs] = some (.bool true) := rfl
@[simp] theorem biD_isTup_i : biD .isTup [.int a] = some (.bool false) := rfl
@[simp] theorem biD_repr : biD .repr [x] = if reprOk x then some (.str x.shown) else none := by cases x <;> rfl
@[simp] theorem biD_gcd : biD .gcd [.int a, .int b] = some (.int ((Nat.gcd a.natAbs b.natAbs : Nat) : Int)) := rfl
@[simp] theorem biD_isqrt : biD .isqrt [.int a] = if 0 ≤ a ∧ a.natAbs.log2 < 13000 then some (.int ((Float64.isqrt a.toNat : Nat) : Int)) else none := rfl
@[simp] theorem biD_listRange : biD .listRange [.int a] = if a.natAbs ≤ 10000000 then some (.list (rngD a.toNat)) else none := rfl
@[simp] theorem binD_add : binD .add (.int a) (.int b) = some (.int (a + b)) := rfl
@[simp] theorem binD_add_b : binD .add (.int a) (.bool p) = some (.int (a + bI p)) := rfl
@[simp] theorem binD_sub : binD .sub (.int a) (.int b) = some (.int (a - b)) := rfl
@[simp] theorem binD_sub_b : binD .sub (.int a) (.bool p) = some (.int (a - bI p)) := rfl
@[simp] theorem binD_sub_bb : binD .sub (.bool p) (.bool q) = some (.int (bI p - bI q)) := rfl
@[simp] theorem binD_mul : binD .mul (.int a) (.int b) = if mulOk a b then some (.int (a * b)) else none := rfl
@[simp] theorem binD_fdiv : binD .fdiv (.int a) (.int b) = if divOk b then some (.int (a.fdiv b)) else none := rfl
@[simp] theorem binD_mod : binD .mod (.int a) (.int b) = if b ≠ 0 then some (.int (a.fmod b)) else none := rfl
@[simp] theorem binD_pow : binD .pow (.int a) (.int b) = if powOk a b then some (.int (a ^ b.toNat)) else none := rfl
@[simp] theorem cmpD_lt : cmpD .lt (.int a) (.int b) = some (decide (a < b)) := rfl
@[simp] theorem cmpD_le : cmpD .le (.int a) (.int b) = some (decide (a ≤ b)) := rfl
@[simp] theorem cmpD_gt : cmpD .gt (.int a) (.int b) = some (decide (b < a)) := rfl
@[simp] theorem cmpD_ge : cmpD .ge (.int a) (.int b) = some (decide (b ≤ a)) := rfl
@[simp] theorem cmpD_isN : cmpD .isN x .none = some (isNone x) := by cases x <;> rfl
@[simp] theorem cmpD_notN : cmpD .notN x .none = some (!isNone x) := by cases x <;> rfl
@[simp] theorem cmpD_eq_s : cmpD .eq (.str s) (.str t) = some (decide (s = t)) := rfl
@[simp] theorem cmpD_ne_s : cmpD .ne (.str s) (.str t) = some (!decide (s = t)) := rfl
@[simp] theorem cmpD_eq_i : cmpD .eq (.int a) (.int b) = some (decide (a = b)) := by
  show (if flatD (.int a) && flatD (.int b) then some (PyData.eqv (.int a) (.int b)) else none) = _
  rfl
@[simp] theorem cmpD_ne_i : cmpD .ne (.int a) (.int b) = some (!decide (a = b)) := rfl
@[simp] theorem cmpD_eq_b : cmpD .eq (.bool p) (.bool q) = some (decide (p = q)) := by cases p <;> cases q <;> rfl
@[simp] theorem truthD_b : truthD (.bool p) = some p := rfl
@[simp] theorem truthD_i : truthD (.int a) = some (a != 0) := rfl
@[simp] theorem truthD_n : truthD .none = some false := rfl
@[simp] theorem truthD_l : truthD (.list xs) = some (!xs.isEmpty) := rfl
@[simp] theorem truthD_t : truthD (.tuple xs) = some (!xs.isEmpty) := rfl
@[simp] theorem ixD_t : ixD (.tuple xs) (.int a) = atI xs a := rfl
@[simp] theorem ixD_l : ixD (.list xs) (.int a) = atI xs a := rfl
@[simp] theorem isNone_t : isNone (.tuple xs) = false := rfl
@[simp] theorem isNone_n : isNone .none = true := rfl
@[simp] theorem rd_d {S : Sto} : rd S (.d x) = some x := rfl
@[simp] theorem rds_nil {S : Sto} : rds S [] = some [] := rfl
@[simp] theorem rds_cons {S : Sto} {v : A} {r : List A} : rds S (v :: r) = (rd S v).bind fun x => (rds S r).map (x :: ·) := rfl
@[simp] theorem datas_nil : datas [] = some [] := rfl
@[simp] theorem datas_d {r : List A} : datas (.d x :: r) = (datas r).map (x :: ·) := rfl
@[simp] theorem asInts_nil : asInts [] = some [] := rfl
@[simp] theorem asInts_cons : asInts (.int a :: xs) = (asInts xs).map (a :: ·) := rfl
@[simp] theorem asBools_nil : asBools [] = some [] := rfl
@[simp] theorem asBools_cons : asBools (.bool p :: xs) = (asBools xs).map (p :: ·) := rfl
@[simp] theorem setAll_nil {σ : En} : setAll [] [] σ = some σ := rfl
@[simp] theorem setAll_cons {σ : En} {i : Nat} {is : List Nat} : setAll (i :: is) (x :: xs) σ = setAll is xs (σ.set i (some (.d x))) := rfl
@[simp] theorem setTg_n {σ : En} {i : Nat} : setTg (.n i) x σ = some (σ.set i (some (.d x))) := rfl
@[simp] theorem setTg_t {σ : En} {is : List Nat} : setTg (.t is) (.tuple xs) σ = if is.length = xs.length then setAll is xs σ else none := rfl
@[simp] theorem wipeD_nil {σ : En} : wipeD σ [] = σ := rfl
@[simp] theorem wipeD_cons {σ : En} {i : Nat} {is : List Nat} : wipeD σ (i :: is) = (wipeD σ is).set i none := rfl
@[simp] theorem itemsOf_l : itemsOf (.list xs) = some xs := rfl
@[simp] theorem itemsOf_t : itemsOf (.tuple xs) = some xs := rfl
@[simp] theorem consO_s {l : List PyData} : consO (some y) l = y :: l := rfl
@[simp] theorem consO_n {l : List PyData} : consO none l = l := rfl
@[simp] theorem lcGo_nil {f : PyData → Sto → R (Option PyData)} {S : Sto} : lcGo f [] S = .ok [] S := rfl
@[simp] theorem lcGo_cons' {f : PyData → Sto → R (Option PyData)} {S : Sto} : lcGo f (x :: xs) S = (f x S).bind fun y S1 => (lcGo f xs S1).bind fun ys S2 => .ok (consO y ys) S2 := rfl
@[simp] theorem keepD_ok' {S : Sto} : keepD (.ok (.d x) S) = .ok (some x) S := rfl
@[simp] theorem lcOne_nil {S : Sto} {e : Sto → R A} : lcOne (.ok [] S) e = (keepD (e S)).calm := rfl
@[simp] theorem calm_ok {α : Type} {v : α} {S : Sto} : (R.ok v S).calm = .ok v S := rfl
@[simp] theorem bI_t : bI true = 1 := rfl
@[simp] theorem bI_f : bI false = 0 := rfl
@[simp] theorem fin_f {n : Nat} {S : Sto} : fin false n (.d x) S = .ok (.d x) (S.take n) := rfl
@[simp] theorem fin_t {n : Nat} {v : A} {S : Sto} : fin true n v S = .ok v S := rfl
@[simp] theorem outOf_rt {k : Bool} {n : Nat} {v : A} {S : Sto} : outOf k n (.ok (.rt v) S) = fin k n v S := rfl
@[simp] theorem outOf_nx {k : Bool} {n : Nat} {σ : En} {S : Sto} : outOf k n (.ok (.nx σ) S) = fin k n (.d .none) S := rfl
@[simp] theorem take_len {S : Sto} : S.take S.length = S := List.take_length
theorem atN {l : List PyData} {n : Nat} : atI l (n : Int) = l[n]? := by
  unfold atI ixN
  rw [if_pos (by omega)]
  by_cases h : n < l.length
  · rw [if_pos (by omega)]
    simp
  · rw [if_neg (by omega), List.getElem?_eq_none (by omega)]; rfl
@[simp] theorem atI_0 {l : List PyData} : atI l 0 = l[0]? := atN (n := 0)
@[simp] theorem atI_1 {l : List PyData} : atI l 1 = l[1]? := atN (n := 1)
@[simp] theorem atI_2 {l : List PyData} : atI l 2 = l[2]? := atN (n := 2)
@[simp] theorem atI_3 {l : List PyData} : atI l 3 = l[3]? := atN (n := 3)
end
/-! ### step by step -/
def tstF (c : Cfg) (t : Ex) (σ : En) (S : Sto) : R Bool := (ev c t σ S).bind fun x S1 => R.opt S1 ((rd S1 x).bind truthD)
def bodyF (c : Cfg) (b : Ss) (σ : En) (S : Sto) : R Fl := sts c b σ S
def forF (c : Cfg) (t : Tg) (b : Ss) (y : PyData) (σ : En) (S : Sto) : R Fl := match setTg t y σ with
  | some σ' => sts c b σ' S
  | none => .no
def lcF (c : Cfg) (t : Tg) (own : List Nat) (e : Ex) (cs : Exs) (σ : En) (y : PyData) (S : Sto) : R (Option PyData) := match setTg t y (wipeD σ own) with
  | some σ' => lcOne (evs c cs σ' S) fun S1 => ev c e σ' S1
  | none => .no
section
variable {c : Cfg} {σ : En} {S : Sto} {a b d e : Ex} {o o' : BOp} {p p' : COp} {xs : Exs} {x : PyData} {i j : Nat}
@[simp] theorem ev_k : ev c (.k x) σ S = .ok (.d x) S := by first | (simp only [ev]; done) | (simp only [ev]; rfl)
@[simp] theorem ev_v : ev c (.v i) σ S = R.opt S (σ[i]?.join) := by first | (simp only [ev]; done) | (simp only [ev]; rfl)
@[simp] theorem ev_bin : ev c (.bin o a b) σ S = (ev c a σ S).bind fun x S1 => (ev c b σ S1).bind fun y S2 => match x, y with
    | .d x, .d y => R.opt S2 ((binD o x y).map .d)
    | _, _ => .no := by first | (simp only [ev]; done) | (simp only [ev]; rfl)
@[simp] theorem ev_neg : ev c (.neg a) σ S = (ev c a σ S).bind fun x S1 => match x with
    | .d (.int i) => .ok (.d (.int (-i))) S1
    | _ => .no := by first | (simp only [ev]; done) | (simp only [ev]; rfl)
@[simp] theorem ev_not : ev c (.not a) σ S = (ev c a σ S).bind fun x S1 => R.opt S1 (((rd S1 x).bind truthD).map fun b => .d (.bool (!b))) := by first | (simp only [ev]; done) | (simp only [ev]; rfl)
@[simp] theorem ev_cmp : ev c (.cmp p a b) σ S = (ev c a σ S).bind fun x S1 => (ev c b σ S1).bind fun y S2 => R.opt S2 ((rd S2 x).bind fun x => (rd S2 y).bind fun y => (cmpD p x y).map fun b => .d (.bool b)) := by first | (simp only [ev]; done) | (simp only [ev]; rfl)
@[simp] theorem ev_chain : ev c (.chain p p' a b d) σ S = (ev c a σ S).bind fun x S1 => (ev c b σ S1).bind fun y S2 => match x, y with
    | .d x, .d y => (match cmpD p x y with
      | some true => (ev c d σ S2).bind fun z S3 => (match z with
        | .d z => R.opt S3 ((cmpD p' y z).map fun b => .d (.bool b))
        | _ => .no)
      | some false => .ok (.d (.bool false)) S2
      | none => .no)
    | _, _ => .no := by first | (simp only [ev]; done) | (simp only [ev]; rfl)
@[simp] theorem ev_and : ev c (.and a b) σ S = (ev c a σ S).bind fun x S1 => match (rd S1 x).bind truthD with
    | some true => ev c b σ S1
    | some false => .ok x S1
    | none => .no := by first | (simp only [ev]; done) | (simp only [ev]; rfl)
@[simp] theorem ev_or : ev c (.or a b) σ S = (ev c a σ S).bind fun x S1 => match (rd S1 x).bind truthD with
    | some true => .ok x S1
    | some false => ev c b σ S1
    | none => .no := by first | (simp only [ev]; done) | (simp only [ev]; rfl)
@[simp] theorem ev_ite : ev c (.ite d a b) σ S = (ev c d σ S).bind fun x S1 => match (rd S1 x).bind truthD with
    | some true => ev c a σ S1
    | some false => ev c b σ S1
    | none => .no := by first | (simp only [ev]; done) | (simp only [ev]; rfl)
@[simp] theorem ev_tup : ev c (.tup xs) σ S = (evs c xs σ S).bind fun as S1 => R.opt S1 ((datas as).map fun ds => .d (.tuple ds)) := by first | (simp only [ev]; done) | (simp only [ev]; rfl)
@[simp] theorem ev_lst : ev c (.lst xs) σ S = (evs c xs σ S).bind fun as S1 => R.opt S1 ((datas as).map fun ds => .d (.list ds)) := by first | (simp only [ev]; done) | (simp only [ev]; rfl)
@[simp] theorem ev_lstM : ev c (.lstM xs) σ S = (evs c xs σ S).bind fun as S1 => match datas as with
    | some ds => .ok (.ref S1.length) (S1 ++ [.lst ds])
    | none => .no := by first | (simp only [ev]; done) | (simp only [ev]; rfl)
@[simp] theorem ev_call : ev c (.call i xs) σ S = (evs c xs σ S).bind fun as S1 => c.call i as S1 := by first | (simp only [ev]; done) | (simp only [ev]; rfl)
@[simp] theorem ev_bi {f : Bi} : ev c (.bi f xs) σ S = (evs c xs σ S).bind fun as S1 => R.opt S1 ((rds S1 as).bind fun ds => (biD f ds).map .d) := by first | (simp only [ev]; done) | (simp only [ev]; rfl)
@[simp] theorem ev_ix : ev c (.ix a b) σ S = (ev c a σ S).bind fun x S1 => (ev c b σ S1).bind fun y S2 => R.opt S2 ((rd S2 x).bind fun x => (rd S2 y).bind fun y => (ixD x y).map .d) := by first | (simp only [ev]; done) | (simp only [ev]; rfl)
@[simp] theorem ev_dix {ks : List Int} : ev c (.dix ks xs a) σ S = (evs c xs σ S).bind fun as S1 => (ev c a σ S1).bind fun y S2 => match datas as, y with
    | some ds, .d (.int j) => R.opt S2 (((ks.zip ds).lookup j).map .d)
    | _, _ => .no := by first | (simp only [ev]; done) | (simp only [ev]; rfl)
@[simp] theorem ev_slice {lo hi : Exs} : ev c (.slice a lo hi) σ S = (ev c a σ S).bind fun x S1 => (evs c lo σ S1).bind fun l S2 => (evs c hi σ S2).bind fun h S3 =>
      R.opt S3 ((rd S3 x).bind fun x => (optI l).bind fun l => (optI h).bind fun h => (sliceD x l h).map .d) := by first | (simp only [ev]; done) | (simp only [ev]; rfl)
@[simp] theorem ev_lc {t : Tg} {own : List Nat} : ev c (.lc t own a e xs) σ S = (ev c a σ S).bind fun x S1 => match x with
    | .d x => (match itemsOf x with
      | some ys => (lcGo (lcF c t own e xs σ) ys S1).bind fun ys S2 => .ok (.d (.list ys)) S2
      | none => .no)
    | .ref _ => .no := by first | (simp only [ev]; done) | (simp only [ev]; rfl)
@[simp] theorem ev_lcR {own : List Nat} : ev c (.lcR i own a e xs) σ S = (ev c a σ S).bind fun x S1 => match x with
    | .d (.int j) => if j.natAbs ≤ 10000000 then (lcGo (lcF c (.n i) own e xs σ) (rngD j.toNat) S1).bind fun ys S2 => .ok (.d (.list ys)) S2 else .no
    | _ => .no := by first | (simp only [ev]; done) | (simp only [ev]; rfl)
@[simp] theorem evs_nil : evs c .nil σ S = .ok [] S := by first | (simp only [evs]; done) | (simp only [evs]; rfl)
@[simp] theorem evs_cons : evs c (.cons a xs) σ S = (ev c a σ S).bind fun x S1 => (evs c xs σ S1).bind fun xs S2 => .ok (x :: xs) S2 := by first | (simp only [evs]; done) | (simp only [evs]; rfl)
variable {t it n : Ex} {u w : Ss} {z : Sm} {is : List Nat} {tg : Tg}
@[simp] theorem st_set : st c (.set i e) σ S = (ev c e σ S).bind fun x S1 => .ok (.nx (σ.set i (some x))) S1 := by first | (simp only [st]; done) | (simp only [st]; rfl)
@[simp] theorem st_par : st c (.par i j a b) σ S = (ev c a σ S).bind fun x S1 => (ev c b σ S1).bind fun y S2 => .ok (.nx ((σ.set i (some x)).set j (some y))) S2 := by first | (simp only [st]; done) | (simp only [st]; rfl)
@[simp] theorem st_par3 {l : Nat} : st c (.par3 i j l a b e) σ S = (ev c a σ S).bind fun x S1 => (ev c b σ S1).bind fun y S2 => (ev c e σ S2).bind fun z S3 => .ok (.nx (((σ.set i (some x)).set j (some y)).set l (some z))) S3 := by first | (simp only [st]; done) | (simp only [st]; rfl)
@[simp] theorem st_unp : st c (.unp is e) σ S = (ev c e σ S).bind fun x S1 => match x with
    | .d x => R.opt S1 ((setTg (.t is) x σ).map .nx)
    | _ => .no := by first | (simp only [st]; done) | (simp only [st]; rfl)
@[simp] theorem st_six : st c (.six a d e) σ S = (ev c e σ S).bind fun y S1 => (ev c a σ S1).bind fun x S2 => (ev c d σ S2).bind fun j S3 => match x, j, y with
    | .ref r, .d (.int j), .d y => (match S3[r]? with
      | some (.lst ds) => (match ixN ds.length j with
        | some n => .ok (.nx σ) (S3.set r (.lst (ds.set n y)))
        | none => .no)
      | none => .no)
    | _, _, _ => .no := by first | (simp only [st]; done) | (simp only [st]; rfl)
@[simp] theorem st_ret : st c (.ret e) σ S = (ev c e σ S).bind fun x S1 => .ok (.rt x) S1 := by first | (simp only [st]; done) | (simp only [st]; rfl)
@[simp] theorem st_retN : st c .retN σ S = .ok (.rt (.d .none)) S := by first | (simp only [st]; done) | (simp only [st]; rfl)
@[simp] theorem st_ife : st c (.ife t u w) σ S = (ev c t σ S).bind fun x S1 => match (rd S1 x).bind truthD with
    | some true => sts c u σ S1
    | some false => sts c w σ S1
    | none => .no := by first | (simp only [st]; done) | (simp only [st]; rfl)
@[simp] theorem st_whl : st c (.whl t u) σ S = whlGo (tstF c t) (bodyF c u) c.fuel σ S := by first | (simp only [st]; done) | (simp only [st]; rfl)
@[simp] theorem st_for : st c (.for_ tg it u) σ S = (ev c it σ S).bind fun x S1 => match x with
    | .d x => (match itemsOf x with
      | some ys => forGo (fun _ => true) (forF c tg u) ys σ S1
      | none => .no)
    | _ => .no := by first | (simp only [st]; done) | (simp only [st]; rfl)
@[simp] theorem st_forR : st c (.forR i n u) σ S = (ev c n σ S).bind fun x S1 => match x with
    | .d (.int j) => if j.natAbs ≤ 10000000 then forGo (fun _ => true) (forF c (.n i) u) (rngD j.toNat) σ S1 else .no
    | _ => .no := by first | (simp only [st]; done) | (simp only [st]; rfl)
@[simp] theorem st_expr : st c (.expr e) σ S = (ev c e σ S).bind fun _ S1 => .ok (.nx σ) S1 := by first | (simp only [st]; done) | (simp only [st]; rfl)
@[simp] theorem st_app : st c (.app a e) σ S = (ev c a σ S).bind fun x S1 => (ev c e σ S1).bind fun y S2 => match x, y with
    | .ref r, .d y => (match S2[r]? with
      | some (.lst ds) => if ds.length < sizeLine then .ok (.nx σ) (S2.set r (.lst (ds ++ [y]))) else .no
      | none => .no)
    | _, _ => .no := by first | (simp only [st]; done) | (simp only [st]; rfl)
@[simp] theorem st_pass : st c .pass σ S = .ok (.nx σ) S := by first | (simp only [st]; done) | (simp only [st]; rfl)
@[simp] theorem st_brk : st c .brk σ S = .ok (.bk σ) S := by first | (simp only [st]; done) | (simp only [st]; rfl)
@[simp] theorem st_cont : st c .cont σ S = .ok (.ct σ) S := by first | (simp only [st]; done) | (simp only [st]; rfl)
@[simp] theorem st_raise {k : Nat} : st c (.raise k e) σ S = .no := by first | (simp only [st]; done) | (simp only [st]; rfl)
@[simp] theorem sts_nil : sts c .nil σ S = .ok (.nx σ) S := by first | (simp only [sts]; done) | (simp only [sts]; rfl)
@[simp] theorem sts_cons : sts c (.cons z u) σ S = (st c z σ S).bind fun f S1 => match f with
    | .nx σ' => sts c u σ' S1
    | f => .ok f S1 := by first | (simp only [sts]; done) | (simp only [sts]; rfl)
/-- one turn of a while -/
theorem whl_on {k : Nat} {S1 S2 : Sto} {σ' : En} (h : tstF c t σ S = .ok true S1) (hb : bodyF c u σ S1 = .ok (.nx σ') S2) : whlGo (tstF c t) (bodyF c u) (k + 1) σ S = whlGo (tstF c t) (bodyF c u) k σ' S2 := by
  rw [whlGo, h, R.bind_ok, if_pos rfl, hb, R.bind_ok]
theorem whl_off {k : Nat} {S1 : Sto} (h : tstF c t σ S = .ok false S1) : whlGo (tstF c t) (bodyF c u) (k + 1) σ S = .ok (.nx σ) S1 := by
  rw [whlGo, h, R.bind_ok, if_neg Bool.false_ne_true]
end
theorem log_of {a n : Nat} (h : a < 2 ^ n) : a.log2 ≤ n := by
  by_cases e : a = 0
  · subst e; simp
  · have := (Nat.log2_lt e).mpr h
    omega
theorem mul_ok {a b : Int} {n m : Nat} (ha : a.natAbs < 2 ^ n) (hb : b.natAbs < 2 ^ m) (h : n + m < 1000000) : mulOk a b = true := by
  unfold mulOk
  have h1 := log_of ha
  have h2 := log_of hb
  simp only [decide_eq_true_eq]; omega
theorem div_ok {b : Int} {m : Nat} (h0 : b ≠ 0) (hb : b.natAbs < 2 ^ m) (h : m < 9000) : divOk b = true := by
  unfold divOk
  have h2 := log_of hb
  simp only [h0, ne_eq, not_false_eq_true, decide_true, Bool.true_and, decide_eq_true_eq]; omega
/-- a call by its body -/
theorem cf_eq {ds : List DefI} {F d k : Nat} {f : Fn} {as : List A} {S : Sto} (h : tabT ds k = some f) (hl : as.length = f.np) : callF (tabT ds) F (d + 1) k as S = outOf f.keep S.length (sts ⟨callF (tabT ds) F d, F⟩ f.body (Pv.start f.nn as) S) := by
  simp only [callF, h, hl, if_true]
end Pv
set_option Elab.async false
set_option maxRecDepth 100000
set_option linter.unusedVariables false
/-! the table of the law's defs -/
namespace K26
open PySem PySem.Spec PyProof.Rows L2 Pv
def top (i : Nat) : Stmt := PySem.Challenge.pw_whennumbersstop_k26_whole_sums_and_signs.main.body.getD i (.Pass ⟨0, 0, 0, 0⟩)
def z_BEYOND : Int := 1000000000000000000000000000000000000000000000000000000000000000000000000000000000000000000000000000000000000000000000000000000000000000000000000000000000000000000000000000000000000000000000000000000000000000000000000000000000000000000000000000000000000000000000000000000000000000000000000000000000000
def c_BEYOND : PyData := .int z_BEYOND
def b_is_integer : Ss := (.cons (.ret (.and (.bi .isInt (.cons (.v 0) .nil)) (.not (.bi .isBool (.cons (.v 0) .nil))))) .nil)
def b_is_between : Ss := (.cons (.ret (.and (.call 0 (.cons (.v 0) .nil)) (.chain .le .le (.v 1) (.v 0) (.v 2)))) .nil)
def b_common : Ss := (.cons (.ret (.bi .gcd (.cons (.v 0) (.cons (.v 1) .nil)))) .nil)
def b_reduced : Ss := (.cons (.set 2 (.ite (.cmp .gt (.v 1) (.k (.int 0))) (.call 2 (.cons (.v 0) (.cons (.v 1) .nil))) (.bin .sub (.k (.int 0)) (.call 2 (.cons (.v 0) (.cons (.v 1) .nil)))))) (.cons (.ret (.tup (.cons (.bin .fdiv (.v 0) (.v 2)) (.cons (.bin .fdiv (.v 1) (.v 2)) .nil)))) .nil))
def b_is_fraction : Ss := (.cons (.ife (.or (.not (.bi .isTup (.cons (.v 0) .nil))) (.or (.cmp .ne (.bi .len (.cons (.v 0) .nil)) (.k (.int 2))) (.not (.bi .all (.cons (.lc (.n 1) [1] (.v 0) (.call 0 (.cons (.v 1) .nil)) .nil) .nil))))) (.cons (.ret (.k (.bool false))) .nil) .nil) (.cons (.ret (.and (.cmp .ge (.ix (.v 0) (.k (.int 1))) (.k (.int 1))) (.cmp .eq (.call 2 (.cons (.ix (.v 0) (.k (.int 0))) (.cons (.ix (.v 0) (.k (.int 1))) .nil))) (.k (.int 1))))) .nil))
def b_is_told_fraction : Ss := (.cons (.ret (.and (.call 4 (.cons (.v 0) .nil)) (.and (.cmp .lt (.bi .abs (.cons (.ix (.v 0) (.k (.int 0))) .nil)) (.k c_BEYOND)) (.cmp .lt (.ix (.v 0) (.k (.int 1))) (.k c_BEYOND))))) .nil)
def b_added : Ss := (.cons (.ret (.call 3 (.cons (.bin .add (.bin .mul (.ix (.v 0) (.k (.int 0))) (.ix (.v 1) (.k (.int 1)))) (.bin .mul (.ix (.v 1) (.k (.int 0))) (.ix (.v 0) (.k (.int 1))))) (.cons (.bin .mul (.ix (.v 0) (.k (.int 1))) (.ix (.v 1) (.k (.int 1)))) .nil)))) .nil)
def b_difference : Ss := (.cons (.ret (.call 3 (.cons (.bin .sub (.bin .mul (.ix (.v 0) (.k (.int 0))) (.ix (.v 1) (.k (.int 1)))) (.bin .mul (.ix (.v 1) (.k (.int 0))) (.ix (.v 0) (.k (.int 1))))) (.cons (.bin .mul (.ix (.v 0) (.k (.int 1))) (.ix (.v 1) (.k (.int 1)))) .nil)))) .nil)
def b_product_of : Ss := (.cons (.ret (.call 3 (.cons (.bin .mul (.ix (.v 0) (.k (.int 0))) (.ix (.v 1) (.k (.int 0)))) (.cons (.bin .mul (.ix (.v 0) (.k (.int 1))) (.ix (.v 1) (.k (.int 1)))) .nil)))) .nil)
def b_quotient : Ss := (.cons (.ret (.call 3 (.cons (.bin .mul (.ix (.v 0) (.k (.int 0))) (.ix (.v 1) (.k (.int 1)))) (.cons (.bin .mul (.ix (.v 0) (.k (.int 1))) (.ix (.v 1) (.k (.int 0)))) .nil)))) .nil)
def b_floor_root : Ss := (.cons (.ret (.bi .isqrt (.cons (.v 0) .nil))) .nil)
def b_is_square : Ss := (.cons (.ret (.and (.cmp .ge (.v 0) (.k (.int 0))) (.cmp .eq (.bin .mul (.bi .isqrt (.cons (.v 0) .nil)) (.bi .isqrt (.cons (.v 0) .nil))) (.v 0)))) .nil)
def b_core_told : Ss := (.cons (.unp [1, 2, 3, 4] (.tup (.cons (.v 0) (.cons (.k (.int 1)) (.cons (.k (.int 1)) (.cons (.k (.int 2)) .nil)))))) (.cons (.whl (.and (.cmp .le (.v 4) (.k (.int 10000))) (.cmp .le (.bin .mul (.bin .mul (.v 4) (.v 4)) (.v 4)) (.v 1))) (.cons (.whl (.cmp .eq (.bin .mod (.v 1) (.bin .mul (.v 4) (.v 4))) (.k (.int 0))) (.cons (.par 1 3 (.bin .fdiv (.v 1) (.bin .mul (.v 4) (.v 4))) (.bin .mul (.v 3) (.v 4))) .nil)) (.cons (.ife (.cmp .eq (.bin .mod (.v 1) (.v 4)) (.k (.int 0))) (.cons (.par 1 2 (.bin .fdiv (.v 1) (.v 4)) (.bin .mul (.v 2) (.v 4))) .nil) .nil) (.cons (.set 4 (.ite (.cmp .eq (.v 4) (.k (.int 2))) (.bin .add (.v 4) (.k (.int 1))) (.bin .add (.v 4) (.k (.int 2))))) .nil)))) (.cons (.ife (.call 11 (.cons (.v 1) .nil)) (.cons (.ret (.tup (.cons (.v 2) (.cons (.bin .mul (.v 3) (.bi .isqrt (.cons (.v 1) .nil))) .nil)))) .nil) .nil) (.cons (.ret (.ite (.cmp .gt (.bin .mul (.bin .mul (.v 4) (.v 4)) (.v 4)) (.v 1)) (.tup (.cons (.bin .mul (.v 2) (.v 1)) (.cons (.v 3) .nil))) (.k .none))) .nil))))
def b_is_field : Ss := (.cons (.ife (.not (.call 1 (.cons (.v 0) (.cons (.k (.int 1)) (.cons (.bin .sub (.k c_BEYOND) (.k (.int 1))) .nil))))) (.cons (.ret (.k (.bool false))) .nil) .nil) (.cons (.set 1 (.call 12 (.cons (.v 0) .nil))) (.cons (.ret (.and (.cmp .notN (.v 1) (.k .none)) (.cmp .eq (.ix (.v 1) (.k (.int 1))) (.k (.int 1))))) .nil)))
def b_check_field : Ss := (.cons (.ife (.not (.call 13 (.cons (.v 0) .nil))) (.cons (.raise 0 (.k .none)) .nil) .nil) .nil)
def b_is_surd : Ss := (.cons (.ife (.or (.not (.bi .isTup (.cons (.v 1) .nil))) (.or (.cmp .ne (.bi .len (.cons (.v 1) .nil)) (.k (.int 2))) (.not (.bi .all (.cons (.lc (.n 2) [2] (.v 1) (.call 5 (.cons (.v 2) .nil)) .nil) .nil))))) (.cons (.ret (.k (.bool false))) .nil) .nil) (.cons (.ret (.or (.cmp .gt (.v 0) (.k (.int 1))) (.cmp .eq (.ix (.v 1) (.k (.int 1))) (.k (.tuple [(.int 0), (.int 1)]))))) .nil))
def b_check_surd : Ss := (.cons (.ife (.not (.call 15 (.cons (.v 0) (.cons (.v 1) .nil)))) (.cons (.raise 0 (.k .none)) .nil) .nil) .nil)
def b_surd_of : Ss := (.cons (.ret (.tup (.cons (.v 0) (.cons (.k (.tuple [(.int 0), (.int 1)])) .nil)))) .nil)
def b_is_nothing : Ss := (.cons (.ret (.and (.cmp .eq (.ix (.ix (.v 0) (.k (.int 0))) (.k (.int 0))) (.k (.int 0))) (.cmp .eq (.ix (.ix (.v 0) (.k (.int 1))) (.k (.int 0))) (.k (.int 0))))) .nil)
def b_surd_plus : Ss := (.cons (.ret (.tup (.cons (.call 6 (.cons (.ix (.v 0) (.k (.int 0))) (.cons (.ix (.v 1) (.k (.int 0))) .nil))) (.cons (.call 6 (.cons (.ix (.v 0) (.k (.int 1))) (.cons (.ix (.v 1) (.k (.int 1))) .nil))) .nil)))) .nil)
def b_surd_less : Ss := (.cons (.ret (.tup (.cons (.call 7 (.cons (.ix (.v 0) (.k (.int 0))) (.cons (.ix (.v 1) (.k (.int 0))) .nil))) (.cons (.call 7 (.cons (.ix (.v 0) (.k (.int 1))) (.cons (.ix (.v 1) (.k (.int 1))) .nil))) .nil)))) .nil)
def b_surd_times : Ss := (.cons (.ife (.and (.cmp .eq (.ix (.ix (.v 1) (.k (.int 1))) (.k (.int 0))) (.k (.int 0))) (.cmp .eq (.ix (.ix (.v 2) (.k (.int 1))) (.k (.int 0))) (.k (.int 0)))) (.cons (.ret (.tup (.cons (.call 8 (.cons (.ix (.v 1) (.k (.int 0))) (.cons (.ix (.v 2) (.k (.int 0))) .nil))) (.cons (.k (.tuple [(.int 0), (.int 1)])) .nil)))) .nil) .nil) (.cons (.set 3 (.call 8 (.cons (.call 8 (.cons (.ix (.v 1) (.k (.int 1))) (.cons (.ix (.v 2) (.k (.int 1))) .nil))) (.cons (.tup (.cons (.v 0) (.cons (.k (.int 1)) .nil))) .nil)))) (.cons (.set 4 (.call 6 (.cons (.call 8 (.cons (.ix (.v 1) (.k (.int 0))) (.cons (.ix (.v 2) (.k (.int 1))) .nil))) (.cons (.call 8 (.cons (.ix (.v 1) (.k (.int 1))) (.cons (.ix (.v 2) (.k (.int 0))) .nil))) .nil)))) (.cons (.ret (.tup (.cons (.call 6 (.cons (.call 8 (.cons (.ix (.v 1) (.k (.int 0))) (.cons (.ix (.v 2) (.k (.int 0))) .nil))) (.cons (.v 3) .nil))) (.cons (.v 4) .nil)))) .nil))))
def b_norm_of : Ss := (.cons (.ret (.call 7 (.cons (.call 8 (.cons (.ix (.v 1) (.k (.int 0))) (.cons (.ix (.v 1) (.k (.int 0))) .nil))) (.cons (.call 8 (.cons (.call 8 (.cons (.ix (.v 1) (.k (.int 1))) (.cons (.ix (.v 1) (.k (.int 1))) .nil))) (.cons (.tup (.cons (.v 0) (.cons (.k (.int 1)) .nil))) .nil))) .nil)))) .nil)
def b_surd_inverse : Ss := (.cons (.set 2 (.call 22 (.cons (.v 0) (.cons (.v 1) .nil)))) (.cons (.ret (.tup (.cons (.call 9 (.cons (.ix (.v 1) (.k (.int 0))) (.cons (.v 2) .nil))) (.cons (.call 9 (.cons (.call 7 (.cons (.k (.tuple [(.int 0), (.int 1)])) (.cons (.ix (.v 1) (.k (.int 1))) .nil))) (.cons (.v 2) .nil))) .nil)))) .nil))
def b_surd_by : Ss := (.cons (.ret (.call 21 (.cons (.v 0) (.cons (.v 1) (.cons (.call 23 (.cons (.v 0) (.cons (.v 2) .nil))) .nil))))) .nil)
def b_sign_of : Ss := (.cons (.ret (.bin .sub (.cmp .gt (.ix (.v 0) (.k (.int 0))) (.k (.int 0))) (.cmp .lt (.ix (.v 0) (.k (.int 0))) (.k (.int 0))))) .nil)
def b_surd_sign : Ss := (.cons (.par 3 4 (.call 25 (.cons (.ix (.v 1) (.k (.int 0))) .nil)) (.call 25 (.cons (.ix (.v 1) (.k (.int 1))) .nil))) (.cons (.ife (.or (.cmp .eq (.v 3) (.v 4)) (.or (.cmp .eq (.v 4) (.k (.int 0))) (.cmp .eq (.v 3) (.k (.int 0))))) (.cons (.ret (.ite (.cmp .ne (.v 3) (.k (.int 0))) (.v 3) (.v 4))) .nil) .nil) (.cons (.set 2 (.call 22 (.cons (.v 0) (.cons (.v 1) .nil)))) (.cons (.ret (.bin .mul (.v 3) (.call 25 (.cons (.v 2) .nil)))) .nil))))
def b_surd_is_less : Ss := (.cons (.ret (.cmp .lt (.call 26 (.cons (.v 0) (.cons (.call 20 (.cons (.v 1) (.cons (.v 2) .nil))) .nil))) (.k (.int 0)))) .nil)
def b_surd_floor : Ss := (.cons (.set 2 (.bin .fdiv (.bin .mul (.ix (.ix (.v 1) (.k (.int 0))) (.k (.int 1))) (.ix (.ix (.v 1) (.k (.int 1))) (.k (.int 1)))) (.call 2 (.cons (.ix (.ix (.v 1) (.k (.int 0))) (.k (.int 1))) (.cons (.ix (.ix (.v 1) (.k (.int 1))) (.k (.int 1))) .nil))))) (.cons (.par 4 5 (.bin .mul (.ix (.ix (.v 1) (.k (.int 0))) (.k (.int 0))) (.bin .fdiv (.v 2) (.ix (.ix (.v 1) (.k (.int 0))) (.k (.int 1))))) (.bin .mul (.ix (.ix (.v 1) (.k (.int 1))) (.k (.int 0))) (.bin .fdiv (.v 2) (.ix (.ix (.v 1) (.k (.int 1))) (.k (.int 1)))))) (.cons (.set 3 (.call 10 (.cons (.bin .mul (.bin .mul (.v 5) (.v 5)) (.v 0)) .nil))) (.cons (.ife (.cmp .lt (.v 5) (.k (.int 0))) (.cons (.set 3 (.bin .sub (.bin .sub (.k (.int 0)) (.v 3)) (.ite (.cmp .ne (.bin .mul (.v 3) (.v 3)) (.bin .mul (.bin .mul (.v 5) (.v 5)) (.v 0))) (.k (.int 1)) (.k (.int 0))))) .nil) .nil) (.cons (.ret (.bin .fdiv (.bin .add (.v 4) (.v 3)) (.v 2))) .nil)))))
def b_fraction_between : Ss := (.cons (.set 3 (.k (.int 1))) (.cons (.set 4 (.tup (.cons (.bin .add (.call 28 (.cons (.v 0) (.cons (.v 1) .nil))) (.k (.int 1))) (.cons (.k (.int 1)) .nil)))) (.cons (.whl (.not (.call 27 (.cons (.v 0) (.cons (.call 17 (.cons (.v 4) .nil)) (.cons (.v 2) .nil))))) (.cons (.set 3 (.bin .mul (.k (.int 2)) (.v 3))) (.cons (.set 4 (.tup (.cons (.bin .add (.call 28 (.cons (.v 0) (.cons (.call 21 (.cons (.v 0) (.cons (.v 1) (.cons (.call 17 (.cons (.tup (.cons (.v 3) (.cons (.k (.int 1)) .nil))) .nil)) .nil)))) .nil))) (.k (.int 1))) (.cons (.v 3) .nil)))) .nil))) (.cons (.set 5 (.call 2 (.cons (.ix (.v 4) (.k (.int 0))) (.cons (.ix (.v 4) (.k (.int 1))) .nil)))) (.cons (.ret (.tup (.cons (.bin .fdiv (.ix (.v 4) (.k (.int 0))) (.v 5)) (.cons (.bin .fdiv (.ix (.v 4) (.k (.int 1))) (.v 5)) .nil)))) .nil)))))
def b_check_two_surds : Ss := (.cons (.expr (.call 14 (.cons (.v 0) .nil))) (.cons (.expr (.call 16 (.cons (.v 0) (.cons (.v 1) .nil)))) (.cons (.expr (.call 16 (.cons (.v 0) (.cons (.v 2) .nil)))) .nil)))
def b_surd_sum : Ss := (.cons (.expr (.call 30 (.cons (.v 0) (.cons (.v 1) (.cons (.v 2) .nil))))) (.cons (.ret (.call 19 (.cons (.v 1) (.cons (.v 2) .nil)))) .nil))
def b_surd_product : Ss := (.cons (.expr (.call 30 (.cons (.v 0) (.cons (.v 1) (.cons (.v 2) .nil))))) (.cons (.ret (.call 21 (.cons (.v 0) (.cons (.v 1) (.cons (.v 2) .nil))))) .nil))
def b_surd_parted : Ss := (.cons (.expr (.call 30 (.cons (.v 0) (.cons (.v 1) (.cons (.v 2) .nil))))) (.cons (.ife (.call 18 (.cons (.v 2) .nil)) (.cons (.raise 0 (.k .none)) .nil) .nil) (.cons (.ret (.call 24 (.cons (.v 0) (.cons (.v 1) (.cons (.v 2) .nil))))) .nil)))
def b_surd_compared : Ss := (.cons (.expr (.call 30 (.cons (.v 0) (.cons (.v 1) (.cons (.v 2) .nil))))) (.cons (.ret (.call 26 (.cons (.v 0) (.cons (.call 20 (.cons (.v 1) (.cons (.v 2) .nil))) .nil)))) .nil))
def b_surd_rounded : Ss := (.cons (.expr (.call 14 (.cons (.v 0) .nil))) (.cons (.expr (.call 16 (.cons (.v 0) (.cons (.v 1) .nil)))) (.cons (.ret (.call 28 (.cons (.v 0) (.cons (.v 1) .nil)))) .nil)))
def b_surd_between : Ss := (.cons (.expr (.call 30 (.cons (.v 0) (.cons (.v 1) (.cons (.v 2) .nil))))) (.cons (.ife (.not (.call 27 (.cons (.v 0) (.cons (.v 1) (.cons (.v 2) .nil))))) (.cons (.raise 0 (.k .none)) .nil) .nil) (.cons (.ret (.call 29 (.cons (.v 0) (.cons (.v 1) (.cons (.v 2) .nil))))) .nil)))
def b_surd_norm : Ss := (.cons (.expr (.call 14 (.cons (.v 0) .nil))) (.cons (.expr (.call 16 (.cons (.v 0) (.cons (.v 1) .nil)))) (.cons (.ret (.tup (.cons (.call 6 (.cons (.ix (.v 1) (.k (.int 0))) (.cons (.ix (.v 1) (.k (.int 0))) .nil))) (.cons (.call 22 (.cons (.v 0) (.cons (.v 1) .nil))) .nil)))) .nil)))
def b_law_pot : Ss := (.cons (.set 2 (.ite (.cmp .lt (.v 1) (.bi .len (.cons (.v 0) .nil))) (.ix (.v 0) (.v 1)) (.bin .add (.bin .add (.bin .mod (.bi .sum (.cons (.slice (.v 0) .nil (.cons (.k (.int 1)) .nil)) .nil)) (.k (.int 1000003))) (.bin .mul (.k (.int 90767)) (.v 1))) (.k (.int 113965))))) (.cons (.set 3 (.bin .mul (.bin .mod (.bi .int (.cons (.bi .abs (.cons (.v 2) .nil)) .nil)) (.bin .pow (.bin .pow (.k (.int 10)) (.k (.int 60))) (.k (.int 5)))) (.bi .int (.cons (.cmp .ge (.bi .abs (.cons (.v 2) .nil)) (.bin .pow (.k (.int 10)) (.k (.int 18)))) .nil)))) (.cons (.set 4 (.bin .mod (.bi .int (.cons (.v 2) .nil)) (.k (.int 2305843009213693951)))) (.cons (.ret (.lstM (.cons (.v 3) (.cons (.bin .mod (.bi .int (.cons (.bin .add (.bin .add (.bin .mul (.v 4) (.k (.int 590693))) (.bin .mul (.bin .mul (.k (.int 100381)) (.v 1)) (.v 1))) (.k (.int 61151))) .nil)) (.k (.int 2305843009213693921))) (.cons (.k (.int 0)) .nil))))) .nil))))
def b_law_cells : Ss := (.cons (.ret (.bi .listRange (.cons (.bi .max (.cons (.k (.int 1)) (.cons (.bi .min (.cons (.v 1) (.cons (.bi .len (.cons (.v 0) .nil)) .nil))) .nil))) .nil))) .nil)
def b_law_s_is_below : Ss := (.cons (.ret (.cmp .lt (.call 46 (.cons (.v 0) (.cons (.call 45 (.cons (.v 1) (.cons (.v 2) .nil))) .nil))) (.k (.int 0)))) .nil)
def b_law_is_int : Ss := (.cons (.ret (.and (.bi .isInt (.cons (.v 0) .nil)) (.not (.bi .isBool (.cons (.v 0) .nil))))) .nil)
def b_law_is_fraction : Ss := (.cons (.ife (.or (.not (.bi .isTup (.cons (.v 0) .nil))) (.or (.cmp .ne (.bi .len (.cons (.v 0) .nil)) (.k (.int 2))) (.not (.bi .all (.cons (.lc (.n 1) [1] (.v 0) (.call 41 (.cons (.v 1) .nil)) .nil) .nil))))) (.cons (.ret (.k (.bool false))) .nil) .nil) (.cons (.ret (.and (.cmp .gt (.ix (.v 0) (.k (.int 1))) (.k (.int 0))) (.cmp .eq (.call 55 (.cons (.ix (.v 0) (.k (.int 0))) (.cons (.ix (.v 0) (.k (.int 1))) .nil))) (.v 0)))) .nil))
def b_law_is_surd : Ss := (.cons (.ife (.or (.not (.bi .isTup (.cons (.v 1) .nil))) (.or (.cmp .ne (.bi .len (.cons (.v 1) .nil)) (.k (.int 2))) (.not (.bi .all (.cons (.lc (.n 2) [2] (.v 1) (.call 42 (.cons (.v 2) .nil)) .nil) .nil))))) (.cons (.ret (.k (.bool false))) .nil) .nil) (.cons (.ret (.or (.cmp .gt (.v 0) (.k (.int 1))) (.cmp .eq (.ix (.v 1) (.k (.int 1))) (.tup (.cons (.k (.int 0)) (.cons (.k (.int 1)) .nil)))))) .nil))
def b_law_less : Ss := (.cons (.ret (.call 55 (.cons (.bin .sub (.bin .mul (.ix (.v 0) (.k (.int 0))) (.ix (.v 1) (.k (.int 1)))) (.bin .mul (.ix (.v 1) (.k (.int 0))) (.ix (.v 0) (.k (.int 1))))) (.cons (.bin .mul (.ix (.v 0) (.k (.int 1))) (.ix (.v 1) (.k (.int 1)))) .nil)))) .nil)
def b_law_s_less : Ss := (.cons (.ret (.tup (.cons (.call 44 (.cons (.ix (.v 0) (.k (.int 0))) (.cons (.ix (.v 1) (.k (.int 0))) .nil))) (.cons (.call 44 (.cons (.ix (.v 0) (.k (.int 1))) (.cons (.ix (.v 1) (.k (.int 1))) .nil))) .nil)))) .nil)
def b_law_s_sign : Ss := (.cons (.par 3 4 (.bin .mul (.ix (.ix (.v 1) (.k (.int 0))) (.k (.int 0))) (.ix (.ix (.v 1) (.k (.int 1))) (.k (.int 1)))) (.bin .mul (.ix (.ix (.v 1) (.k (.int 1))) (.k (.int 0))) (.ix (.ix (.v 1) (.k (.int 0))) (.k (.int 1))))) (.cons (.ife (.or (.cmp .eq (.v 4) (.k (.int 0))) (.cmp .eq (.v 3) (.k (.int 0)))) (.cons (.ret (.bin .sub (.bin .add (.bin .sub (.cmp .gt (.v 3) (.k (.int 0))) (.cmp .lt (.v 3) (.k (.int 0)))) (.cmp .gt (.v 4) (.k (.int 0)))) (.cmp .lt (.v 4) (.k (.int 0))))) .nil) .nil) (.cons (.ife (.cmp .eq (.cmp .gt (.v 3) (.k (.int 0))) (.cmp .gt (.v 4) (.k (.int 0)))) (.cons (.ret (.ite (.cmp .gt (.v 3) (.k (.int 0))) (.k (.int 1)) (.neg (.k (.int 1))))) .nil) .nil) (.cons (.set 2 (.bin .sub (.bin .mul (.v 3) (.v 3)) (.bin .mul (.bin .mul (.v 4) (.v 4)) (.v 0)))) (.cons (.ret (.bin .mul (.bin .sub (.cmp .gt (.v 2) (.k (.int 0))) (.cmp .lt (.v 2) (.k (.int 0)))) (.ite (.cmp .gt (.v 3) (.k (.int 0))) (.k (.int 1)) (.neg (.k (.int 1)))))) .nil)))))
def b_law_field : Ss := (.cons (.ret (.bi .int (.cons (.call 53 (.cons (.v 0) (.cons (.lst (.cons (.k (.int 1)) (.cons (.k (.int 2)) (.cons (.k (.int 3)) (.cons (.k (.int 5)) (.cons (.k (.int 5)) (.cons (.k (.int 6)) (.cons (.k (.int 7)) (.cons (.k (.int 10)) (.cons (.k (.int 13)) .nil)))))))))) .nil))) .nil))) .nil)
def b_law_times : Ss := (.cons (.ret (.call 55 (.cons (.bin .mul (.ix (.v 0) (.k (.int 0))) (.ix (.v 1) (.k (.int 0)))) (.cons (.bin .mul (.ix (.v 0) (.k (.int 1))) (.ix (.v 1) (.k (.int 1)))) .nil)))) .nil)
def b_law_s_times : Ss := (.cons (.set 3 (.call 51 (.cons (.call 48 (.cons (.ix (.v 1) (.k (.int 0))) (.cons (.ix (.v 2) (.k (.int 0))) .nil))) (.cons (.call 48 (.cons (.tup (.cons (.v 0) (.cons (.k (.int 1)) .nil))) (.cons (.call 48 (.cons (.ix (.v 1) (.k (.int 1))) (.cons (.ix (.v 2) (.k (.int 1))) .nil))) .nil))) .nil)))) (.cons (.ret (.tup (.cons (.v 3) (.cons (.call 51 (.cons (.call 48 (.cons (.ix (.v 1) (.k (.int 0))) (.cons (.ix (.v 2) (.k (.int 1))) .nil))) (.cons (.call 48 (.cons (.ix (.v 1) (.k (.int 1))) (.cons (.ix (.v 2) (.k (.int 0))) .nil))) .nil))) .nil)))) .nil))
def b_law_s_power : Ss := (.cons (.set 3 (.tup (.cons (.tup (.cons (.k (.int 1)) (.cons (.k (.int 1)) .nil))) (.cons (.tup (.cons (.k (.int 0)) (.cons (.k (.int 1)) .nil))) .nil)))) (.cons (.forR 4 (.v 2) (.cons (.set 3 (.call 49 (.cons (.v 0) (.cons (.v 3) (.cons (.v 1) .nil))))) .nil)) (.cons (.ret (.v 3)) .nil)))
def b_law_plus : Ss := (.cons (.ret (.call 55 (.cons (.bin .add (.bin .mul (.ix (.v 0) (.k (.int 0))) (.ix (.v 1) (.k (.int 1)))) (.bin .mul (.ix (.v 1) (.k (.int 0))) (.ix (.v 0) (.k (.int 1))))) (.cons (.bin .mul (.ix (.v 0) (.k (.int 1))) (.ix (.v 1) (.k (.int 1)))) .nil)))) .nil)
def b_law_s_plus : Ss := (.cons (.ret (.tup (.cons (.call 51 (.cons (.ix (.v 0) (.k (.int 0))) (.cons (.ix (.v 1) (.k (.int 0))) .nil))) (.cons (.call 51 (.cons (.ix (.v 0) (.k (.int 1))) (.cons (.ix (.v 1) (.k (.int 1))) .nil))) .nil)))) .nil)
def b_law_of : Ss := (.cons (.ret (.ix (.v 1) (.call 54 (.cons (.v 0) (.cons (.bi .len (.cons (.v 1) .nil)) .nil))))) .nil)
def b_law_take : Ss := (.cons (.ife (.cmp .gt (.ix (.v 0) (.k (.int 0))) (.k (.int 0))) (.cons (.set 4 (.bin .mod (.bi .int (.cons (.ix (.v 0) (.k (.int 0))) .nil)) (.v 1))) (.cons (.six (.v 0) (.k (.int 0)) (.bin .fdiv (.ix (.v 0) (.k (.int 0))) (.v 1))) (.cons (.ret (.v 4)) .nil))) .nil) (.cons (.six (.v 0) (.k (.int 2)) (.bin .add (.ix (.v 0) (.k (.int 2))) (.k (.int 1)))) (.cons (.set 2 (.ix (.lst (.cons (.k (.int 2147483647)) (.cons (.k (.int 2147483629)) (.cons (.k (.int 2147483587)) (.cons (.k (.int 2147483579)) (.cons (.k (.int 2147483563)) .nil)))))) (.bin .mod (.bi .int (.cons (.ix (.v 0) (.k (.int 2))) .nil)) (.k (.int 5))))) (.cons (.set 3 (.bin .mod (.bi .int (.cons (.bin .pow (.bi .int (.cons (.bin .add (.bin .add (.ix (.v 0) (.k (.int 1))) (.bin .mul (.bin .mul (.k (.int 180778)) (.ix (.v 0) (.k (.int 2)))) (.ix (.v 0) (.k (.int 2))))) (.k (.int 61151))) .nil)) (.k (.int 3))) .nil)) (.v 2))) (.cons (.set 3 (.bin .mod (.bi .int (.cons (.bin .mul (.v 3) (.bin .add (.bin .mod (.bi .int (.cons (.v 3) .nil)) (.k (.int 122966))) (.bin .mul (.k (.int 94)) (.ix (.v 0) (.k (.int 2)))))) .nil)) (.k (.int 2305843009213693907)))) (.cons (.ret (.bin .mod (.bi .int (.cons (.bin .fdiv (.v 3) (.k (.int 128))) .nil)) (.v 1))) .nil))))))
def b_law_reduced : Ss := (.cons (.par 3 4 (.bi .abs (.cons (.bi .int (.cons (.v 0) .nil)) .nil)) (.bi .abs (.cons (.bi .int (.cons (.v 1) .nil)) .nil))) (.cons (.whl (.cmp .ne (.v 4) (.k (.int 0))) (.cons (.par 3 4 (.v 4) (.bin .mod (.v 3) (.v 4))) .nil)) (.cons (.set 2 (.ite (.cmp .gt (.v 1) (.k (.int 0))) (.v 3) (.bin .sub (.k (.int 0)) (.v 3)))) (.cons (.ret (.tup (.cons (.bi .int (.cons (.bin .fdiv (.v 0) (.v 2)) .nil)) (.cons (.bi .int (.cons (.bin .fdiv (.v 1) (.v 2)) .nil)) .nil)))) .nil))))
def b_law_number : Ss := (.cons (.ret (.call 55 (.cons (.bin .sub (.bi .int (.cons (.call 54 (.cons (.v 0) (.cons (.k (.int 13)) .nil))) .nil)) (.k (.int 6))) (.cons (.call 53 (.cons (.v 0) (.cons (.lst (.cons (.k (.int 1)) (.cons (.k (.int 1)) (.cons (.k (.int 1)) (.cons (.k (.int 2)) (.cons (.k (.int 3)) .nil)))))) .nil))) .nil)))) .nil)
def b_law_surd : Ss := (.cons (.ret (.tup (.cons (.call 56 (.cons (.v 0) .nil)) (.cons (.ite (.cmp .gt (.v 1) (.k (.int 1))) (.call 56 (.cons (.v 0) .nil)) (.tup (.cons (.k (.int 0)) (.cons (.k (.int 1)) .nil)))) .nil)))) .nil)
def b_law_pair : Ss := (.cons (.par 3 4 (.call 57 (.cons (.v 0) (.cons (.v 1) .nil))) (.call 57 (.cons (.v 0) (.cons (.v 1) .nil)))) (.cons (.set 2 (.call 54 (.cons (.v 0) (.cons (.k (.int 4)) .nil)))) (.cons (.ife (.cmp .eq (.v 2) (.k (.int 0))) (.cons (.set 4 (.call 52 (.cons (.v 3) (.cons (.tup (.cons (.tup (.cons (.k (.int 1)) (.cons (.bi .int (.cons (.bin .add (.k (.int 1)) (.call 54 (.cons (.v 0) (.cons (.bin .pow (.k (.int 10)) (.k (.int 6))) .nil)))) .nil)) .nil))) (.cons (.tup (.cons (.k (.int 0)) (.cons (.k (.int 1)) .nil))) .nil))) .nil)))) .nil) .nil) (.cons (.ife (.and (.cmp .eq (.v 2) (.k (.int 1))) (.cmp .gt (.v 1) (.k (.int 1)))) (.cons (.set 5 (.bi .int (.cons (.bin .add (.k (.int 3)) (.call 54 (.cons (.v 0) (.cons (.k (.int 12)) .nil)))) .nil))) (.cons (.set 6 (.dix [2, 3, 5, 6, 7, 10, 13] (.cons (.tup (.cons (.neg (.k (.int 1))) (.cons (.k (.int 1)) .nil))) (.cons (.tup (.cons (.k (.int 2)) (.cons (.neg (.k (.int 1))) .nil))) (.cons (.tup (.cons (.neg (.k (.int 2))) (.cons (.k (.int 1)) .nil))) (.cons (.tup (.cons (.k (.int 5)) (.cons (.neg (.k (.int 2))) .nil))) (.cons (.tup (.cons (.k (.int 8)) (.cons (.neg (.k (.int 3))) .nil))) (.cons (.tup (.cons (.neg (.k (.int 3))) (.cons (.k (.int 1)) .nil))) (.cons (.tup (.cons (.k (.int 18)) (.cons (.neg (.k (.int 5))) .nil))) .nil))))))) (.v 1))) (.cons (.set 4 (.call 50 (.cons (.v 1) (.cons (.tup (.cons (.tup (.cons (.ix (.v 6) (.k (.int 0))) (.cons (.k (.int 1)) .nil))) (.cons (.tup (.cons (.ix (.v 6) (.k (.int 1))) (.cons (.k (.int 1)) .nil))) .nil))) (.cons (.v 5) .nil))))) .nil))) .nil) (.cons (.ife (.cmp .eq (.v 2) (.k (.int 2))) (.cons (.set 4 (.v 3)) .nil) .nil) (.cons (.ret (.tup (.cons (.v 3) (.cons (.v 4) .nil)))) .nil))))))
def b_law_right : Ss := (.cons (.set 1 (.call 47 (.cons (.v 0) .nil))) (.cons (.unp [5, 6] (.call 58 (.cons (.v 0) (.cons (.v 1) .nil)))) (.cons (.ife (.cmp .ne (.bi .repr (.cons (.call 31 (.cons (.v 1) (.cons (.v 5) (.cons (.v 6) .nil)))) .nil)) (.bi .repr (.cons (.call 52 (.cons (.v 5) (.cons (.v 6) .nil))) .nil))) (.cons (.ret (.k (.bool false))) .nil) .nil) (.cons (.ife (.cmp .ne (.bi .repr (.cons (.call 32 (.cons (.v 1) (.cons (.v 5) (.cons (.v 6) .nil)))) .nil)) (.bi .repr (.cons (.call 49 (.cons (.v 1) (.cons (.v 5) (.cons (.v 6) .nil)))) .nil))) (.cons (.ret (.k (.bool false))) .nil) .nil) (.cons (.set 2 (.call 46 (.cons (.v 1) (.cons (.call 45 (.cons (.v 5) (.cons (.v 6) .nil))) .nil)))) (.cons (.ife (.cmp .ne (.bi .repr (.cons (.call 34 (.cons (.v 1) (.cons (.v 5) (.cons (.v 6) .nil)))) .nil)) (.bi .repr (.cons (.v 2) .nil))) (.cons (.ret (.k (.bool false))) .nil) .nil) (.cons (.ife (.cmp .ne (.v 6) (.tup (.cons (.tup (.cons (.k (.int 0)) (.cons (.k (.int 1)) .nil))) (.cons (.tup (.cons (.k (.int 0)) (.cons (.k (.int 1)) .nil))) .nil)))) (.cons (.set 7 (.call 33 (.cons (.v 1) (.cons (.v 5) (.cons (.v 6) .nil))))) (.cons (.ife (.or (.not (.call 43 (.cons (.v 1) (.cons (.v 7) .nil)))) (.cmp .ne (.call 49 (.cons (.v 1) (.cons (.v 7) (.cons (.v 6) .nil)))) (.v 5))) (.cons (.ret (.k (.bool false))) .nil) .nil) .nil)) .nil) (.cons (.set 3 (.call 49 (.cons (.v 1) (.cons (.v 6) (.cons (.tup (.cons (.ix (.v 6) (.k (.int 0))) (.cons (.tup (.cons (.neg (.ix (.ix (.v 6) (.k (.int 1))) (.k (.int 0)))) (.cons (.ix (.ix (.v 6) (.k (.int 1))) (.k (.int 1))) .nil))) .nil))) .nil))))) (.cons (.ife (.cmp .ne (.bi .repr (.cons (.call 37 (.cons (.v 1) (.cons (.v 6) .nil))) .nil)) (.bi .repr (.cons (.tup (.cons (.call 51 (.cons (.ix (.v 6) (.k (.int 0))) (.cons (.ix (.v 6) (.k (.int 0))) .nil))) (.cons (.ix (.v 3) (.k (.int 0))) .nil))) .nil))) (.cons (.ret (.k (.bool false))) .nil) .nil) (.cons (.set 4 (.call 35 (.cons (.v 1) (.cons (.v 5) .nil)))) (.cons (.ife (.or (.not (.call 41 (.cons (.v 4) .nil))) (.call 40 (.cons (.v 1) (.cons (.v 5) (.cons (.tup (.cons (.tup (.cons (.v 4) (.cons (.k (.int 1)) .nil))) (.cons (.tup (.cons (.k (.int 0)) (.cons (.k (.int 1)) .nil))) .nil))) .nil))))) (.cons (.ret (.k (.bool false))) .nil) .nil) (.cons (.ife (.not (.call 40 (.cons (.v 1) (.cons (.v 5) (.cons (.tup (.cons (.tup (.cons (.bin .add (.v 4) (.k (.int 1))) (.cons (.k (.int 1)) .nil))) (.cons (.tup (.cons (.k (.int 0)) (.cons (.k (.int 1)) .nil))) .nil))) .nil))))) (.cons (.ret (.k (.bool false))) .nil) .nil) (.cons (.ife (.cmp .eq (.v 2) (.k (.int 0))) (.cons (.ret (.k (.bool true))) .nil) .nil) (.cons (.ret (.ite (.cmp .lt (.v 2) (.k (.int 0))) (.call 60 (.cons (.v 1) (.cons (.v 5) (.cons (.v 6) .nil)))) (.call 60 (.cons (.v 1) (.cons (.v 6) (.cons (.v 5) .nil)))))) .nil))))))))))))))
def b_law_is_between_right : Ss := (.cons (.set 3 (.call 36 (.cons (.v 0) (.cons (.v 1) (.cons (.v 2) .nil))))) (.cons (.ife (.or (.not (.call 42 (.cons (.v 3) .nil))) (.not (.call 40 (.cons (.v 0) (.cons (.v 1) (.cons (.tup (.cons (.v 3) (.cons (.tup (.cons (.k (.int 0)) (.cons (.k (.int 1)) .nil))) .nil))) .nil)))))) (.cons (.ret (.k (.bool false))) .nil) .nil) (.cons (.ife (.not (.call 40 (.cons (.v 0) (.cons (.tup (.cons (.v 3) (.cons (.tup (.cons (.k (.int 0)) (.cons (.k (.int 1)) .nil))) .nil))) (.cons (.v 2) .nil))))) (.cons (.ret (.k (.bool false))) .nil) .nil) (.cons (.set 4 (.ix (.v 3) (.k (.int 1)))) (.cons (.whl (.cmp .eq (.bin .mod (.v 4) (.k (.int 2))) (.k (.int 0))) (.cons (.set 4 (.bin .fdiv (.v 4) (.k (.int 2)))) .nil)) (.cons (.ife (.cmp .ne (.v 4) (.k (.int 1))) (.cons (.ret (.k (.bool false))) .nil) .nil) (.cons (.ife (.call 40 (.cons (.v 0) (.cons (.v 1) (.cons (.tup (.cons (.call 44 (.cons (.v 3) (.cons (.tup (.cons (.k (.int 1)) (.cons (.ix (.v 3) (.k (.int 1))) .nil))) .nil))) (.cons (.tup (.cons (.k (.int 0)) (.cons (.k (.int 1)) .nil))) .nil))) .nil)))) (.cons (.ret (.k (.bool false))) .nil) .nil) (.cons (.ife (.cmp .eq (.ix (.v 3) (.k (.int 1))) (.k (.int 1))) (.cons (.ret (.k (.bool true))) .nil) .nil) (.cons (.set 5 (.call 55 (.cons (.bin .add (.ix (.v 3) (.k (.int 0))) (.k (.int 1))) (.cons (.ix (.v 3) (.k (.int 1))) .nil)))) (.cons (.ret (.not (.call 40 (.cons (.v 0) (.cons (.tup (.cons (.v 5) (.cons (.tup (.cons (.k (.int 0)) (.cons (.k (.int 1)) .nil))) .nil))) (.cons (.v 2) .nil)))))) .nil))))))))))
def b_law : Ss := (.cons (.for_ (.n 1) (.call 39 (.cons (.v 0) (.cons (.k (.int 3)) .nil))) (.cons (.set 2 (.call 38 (.cons (.v 0) (.cons (.v 1) .nil)))) (.cons (.ife (.not (.bi .all (.cons (.lcR 3 [3] (.k (.int 8)) (.call 59 (.cons (.v 2) .nil)) .nil) .nil))) (.cons (.ret (.k (.bool false))) .nil) .nil) .nil))) (.cons (.ret (.k (.bool true))) .nil))
def i_is_integer : DefI := { name := "is_integer", st := top 7, N := ["value"], fn := { np := 1, nn := 1, body := b_is_integer, keep := false }, kw := false }
def i_is_between : DefI := { name := "is_between", st := top 8, N := ["value", "low", "high"], fn := { np := 3, nn := 3, body := b_is_between, keep := false }, kw := false }
def i_common : DefI := { name := "common", st := top 9, N := ["one", "other"], fn := { np := 2, nn := 2, body := b_common, keep := false }, kw := false }
def i_reduced : DefI := { name := "reduced", st := top 10, N := ["top", "low", "by"], fn := { np := 2, nn := 3, body := b_reduced, keep := false }, kw := false }
def i_is_fraction : DefI := { name := "is_fraction", st := top 11, N := ["value", "part"], fn := { np := 1, nn := 2, body := b_is_fraction, keep := false }, kw := false }
def i_is_told_fraction : DefI := { name := "is_told_fraction", st := top 12, N := ["value"], fn := { np := 1, nn := 1, body := b_is_told_fraction, keep := false }, kw := false }
def i_added : DefI := { name := "added", st := top 13, N := ["one", "other"], fn := { np := 2, nn := 2, body := b_added, keep := false }, kw := false }
def i_difference : DefI := { name := "difference", st := top 14, N := ["one", "other"], fn := { np := 2, nn := 2, body := b_difference, keep := false }, kw := false }
def i_product_of : DefI := { name := "product_of", st := top 15, N := ["one", "other"], fn := { np := 2, nn := 2, body := b_product_of, keep := false }, kw := false }
def i_quotient : DefI := { name := "quotient", st := top 16, N := ["one", "other"], fn := { np := 2, nn := 2, body := b_quotient, keep := false }, kw := false }
def i_floor_root : DefI := { name := "floor_root", st := top 19, N := ["number"], fn := { np := 1, nn := 1, body := b_floor_root, keep := false }, kw := false }
def i_is_square : DefI := { name := "is_square", st := top 20, N := ["number"], fn := { np := 1, nn := 1, body := b_is_square, keep := false }, kw := false }
def i_core_told : DefI := { name := "core_told", st := top 21, N := ["number", "rest", "core", "root", "part"], fn := { np := 1, nn := 5, body := b_core_told, keep := false }, kw := false }
def i_is_field : DefI := { name := "is_field", st := top 22, N := ["value", "told"], fn := { np := 1, nn := 2, body := b_is_field, keep := false }, kw := false }
def i_check_field : DefI := { name := "check_field", st := top 23, N := ["field"], fn := { np := 1, nn := 1, body := b_check_field, keep := false }, kw := false }
def i_is_surd : DefI := { name := "is_surd", st := top 25, N := ["field", "value", "one"], fn := { np := 2, nn := 3, body := b_is_surd, keep := false }, kw := false }
def i_check_surd : DefI := { name := "check_surd", st := top 26, N := ["field", "value"], fn := { np := 2, nn := 2, body := b_check_surd, keep := false }, kw := false }
def i_surd_of : DefI := { name := "surd_of", st := top 27, N := ["fraction"], fn := { np := 1, nn := 1, body := b_surd_of, keep := false }, kw := false }
def i_is_nothing : DefI := { name := "is_nothing", st := top 28, N := ["one"], fn := { np := 1, nn := 1, body := b_is_nothing, keep := false }, kw := false }
def i_surd_plus : DefI := { name := "surd_plus", st := top 29, N := ["one", "other"], fn := { np := 2, nn := 2, body := b_surd_plus, keep := false }, kw := false }
def i_surd_less : DefI := { name := "surd_less", st := top 30, N := ["one", "other"], fn := { np := 2, nn := 2, body := b_surd_less, keep := false }, kw := false }
def i_surd_times : DefI := { name := "surd_times", st := top 31, N := ["field", "one", "other", "both", "cross"], fn := { np := 3, nn := 5, body := b_surd_times, keep := false }, kw := false }
def i_norm_of : DefI := { name := "norm_of", st := top 32, N := ["field", "one"], fn := { np := 2, nn := 2, body := b_norm_of, keep := false }, kw := false }
def i_surd_inverse : DefI := { name := "surd_inverse", st := top 33, N := ["field", "one", "norm"], fn := { np := 2, nn := 3, body := b_surd_inverse, keep := false }, kw := false }
def i_surd_by : DefI := { name := "surd_by", st := top 34, N := ["field", "one", "other"], fn := { np := 3, nn := 3, body := b_surd_by, keep := false }, kw := false }
def i_sign_of : DefI := { name := "sign_of", st := top 35, N := ["one"], fn := { np := 1, nn := 1, body := b_sign_of, keep := false }, kw := false }
def i_surd_sign : DefI := { name := "surd_sign", st := top 36, N := ["field", "one", "norm", "first", "second"], fn := { np := 2, nn := 5, body := b_surd_sign, keep := false }, kw := false }
def i_surd_is_less : DefI := { name := "surd_is_less", st := top 37, N := ["field", "one", "other"], fn := { np := 3, nn := 3, body := b_surd_is_less, keep := false }, kw := false }
def i_surd_floor : DefI := { name := "surd_floor", st := top 38, N := ["field", "one", "low", "root", "top", "by"], fn := { np := 2, nn := 6, body := b_surd_floor, keep := false }, kw := false }
def i_fraction_between : DefI := { name := "fraction_between", st := top 39, N := ["field", "one", "other", "low", "found", "by"], fn := { np := 3, nn := 6, body := b_fraction_between, keep := false }, kw := false }
def i_check_two_surds : DefI := { name := "check_two_surds", st := top 40, N := ["field", "one", "other"], fn := { np := 3, nn := 3, body := b_check_two_surds, keep := false }, kw := false }
def i_surd_sum : DefI := { name := "surd_sum", st := top 41, N := ["field", "one", "other"], fn := { np := 3, nn := 3, body := b_surd_sum, keep := false }, kw := true }
def i_surd_product : DefI := { name := "surd_product", st := top 42, N := ["field", "one", "other"], fn := { np := 3, nn := 3, body := b_surd_product, keep := false }, kw := true }
def i_surd_parted : DefI := { name := "surd_parted", st := top 43, N := ["field", "one", "other"], fn := { np := 3, nn := 3, body := b_surd_parted, keep := false }, kw := true }
def i_surd_compared : DefI := { name := "surd_compared", st := top 44, N := ["field", "one", "other"], fn := { np := 3, nn := 3, body := b_surd_compared, keep := false }, kw := true }
def i_surd_rounded : DefI := { name := "surd_rounded", st := top 45, N := ["field", "one"], fn := { np := 2, nn := 2, body := b_surd_rounded, keep := false }, kw := true }
def i_surd_between : DefI := { name := "surd_between", st := top 46, N := ["field", "one", "other"], fn := { np := 3, nn := 3, body := b_surd_between, keep := false }, kw := true }
def i_surd_norm : DefI := { name := "surd_norm", st := top 47, N := ["field", "one"], fn := { np := 2, nn := 2, body := b_surd_norm, keep := false }, kw := true }
def i_law_pot : DefI := { name := "_law_pot", st := top 49, N := ["script", "place", "cell", "own", "small"], fn := { np := 2, nn := 5, body := b_law_pot, keep := true }, kw := false }
def i_law_cells : DefI := { name := "_law_cells", st := top 50, N := ["script", "limit"], fn := { np := 2, nn := 2, body := b_law_cells, keep := false }, kw := false }
def i_law_s_is_below : DefI := { name := "_law_s_is_below", st := top 51, N := ["field", "one", "other"], fn := { np := 3, nn := 3, body := b_law_s_is_below, keep := false }, kw := false }
def i_law_is_int : DefI := { name := "_law_is_int", st := top 52, N := ["value"], fn := { np := 1, nn := 1, body := b_law_is_int, keep := false }, kw := false }
def i_law_is_fraction : DefI := { name := "_law_is_fraction", st := top 53, N := ["value", "one"], fn := { np := 1, nn := 2, body := b_law_is_fraction, keep := false }, kw := false }
def i_law_is_surd : DefI := { name := "_law_is_surd", st := top 54, N := ["field", "value", "one"], fn := { np := 2, nn := 3, body := b_law_is_surd, keep := false }, kw := false }
def i_law_less : DefI := { name := "_law_less", st := top 55, N := ["one", "other"], fn := { np := 2, nn := 2, body := b_law_less, keep := false }, kw := false }
def i_law_s_less : DefI := { name := "_law_s_less", st := top 56, N := ["one", "other"], fn := { np := 2, nn := 2, body := b_law_s_less, keep := false }, kw := false }
def i_law_s_sign : DefI := { name := "_law_s_sign", st := top 57, N := ["field", "one", "square", "top", "by"], fn := { np := 2, nn := 5, body := b_law_s_sign, keep := false }, kw := false }
def i_law_field : DefI := { name := "_law_field", st := top 58, N := ["pot"], fn := { np := 1, nn := 1, body := b_law_field, keep := false }, kw := false }
def i_law_times : DefI := { name := "_law_times", st := top 59, N := ["one", "other"], fn := { np := 2, nn := 2, body := b_law_times, keep := false }, kw := false }
def i_law_s_times : DefI := { name := "_law_s_times", st := top 60, N := ["field", "one", "other", "first"], fn := { np := 3, nn := 4, body := b_law_s_times, keep := false }, kw := false }
def i_law_s_power : DefI := { name := "_law_s_power", st := top 61, N := ["field", "one", "many", "found", "lap"], fn := { np := 3, nn := 5, body := b_law_s_power, keep := false }, kw := false }
def i_law_plus : DefI := { name := "_law_plus", st := top 62, N := ["one", "other"], fn := { np := 2, nn := 2, body := b_law_plus, keep := false }, kw := false }
def i_law_s_plus : DefI := { name := "_law_s_plus", st := top 63, N := ["one", "other"], fn := { np := 2, nn := 2, body := b_law_s_plus, keep := false }, kw := false }
def i_law_of : DefI := { name := "_law_of", st := top 64, N := ["pot", "some"], fn := { np := 2, nn := 2, body := b_law_of, keep := false }, kw := false }
def i_law_take : DefI := { name := "_law_take", st := top 65, N := ["pot", "upto", "prime", "blend", "digit"], fn := { np := 2, nn := 5, body := b_law_take, keep := false }, kw := false }
def i_law_reduced : DefI := { name := "_law_reduced", st := top 66, N := ["top", "low", "by", "one", "other"], fn := { np := 2, nn := 5, body := b_law_reduced, keep := false }, kw := false }
def i_law_number : DefI := { name := "_law_number", st := top 67, N := ["pot"], fn := { np := 1, nn := 1, body := b_law_number, keep := false }, kw := false }
def i_law_surd : DefI := { name := "_law_surd", st := top 68, N := ["pot", "field"], fn := { np := 2, nn := 2, body := b_law_surd, keep := false }, kw := false }
def i_law_pair : DefI := { name := "_law_pair", st := top 69, N := ["pot", "field", "way", "one", "other", "lap", "part"], fn := { np := 2, nn := 7, body := b_law_pair, keep := false }, kw := false }
def i_law_right : DefI := { name := "_law_right", st := top 70, N := ["pot", "field", "sign", "norm", "floor", "one", "other", "told"], fn := { np := 1, nn := 8, body := b_law_right, keep := false }, kw := false }
def i_law_is_between_right : DefI := { name := "_law_is_between_right", st := top 71, N := ["field", "one", "other", "told", "low", "more"], fn := { np := 3, nn := 6, body := b_law_is_between_right, keep := false }, kw := false }
def i_law : DefI := { name := "law", st := top 72, N := ["script", "place", "pot", "lap"], fn := { np := 1, nn := 4, body := b_law, keep := false }, kw := false }
def ds : List DefI := [i_is_integer, i_is_between, i_common, i_reduced, i_is_fraction, i_is_told_fraction, i_added, i_difference, i_product_of, i_quotient, i_floor_root, i_is_square, i_core_told, i_is_field, i_check_field, i_is_surd, i_check_surd, i_surd_of, i_is_nothing, i_surd_plus, i_surd_less, i_surd_times, i_norm_of, i_surd_inverse, i_surd_by, i_sign_of, i_surd_sign, i_surd_is_less, i_surd_floor, i_fraction_between, i_check_two_surds, i_surd_sum, i_surd_product, i_surd_parted, i_surd_compared, i_surd_rounded, i_surd_between, i_surd_norm, i_law_pot, i_law_cells, i_law_s_is_below, i_law_is_int, i_law_is_fraction, i_law_is_surd, i_law_less, i_law_s_less, i_law_s_sign, i_law_field, i_law_times, i_law_s_times, i_law_s_power, i_law_plus, i_law_s_plus, i_law_of, i_law_take, i_law_reduced, i_law_number, i_law_surd, i_law_pair, i_law_right, i_law_is_between_right, i_law]
def G (x : Str) : Option PyData := if x = "BEYOND" then some c_BEYOND else if x = "MOST_PRIME" then some (.int 10000) else if x = "NOTHING" then some (.tuple [(.int 0), (.int 1)]) else none
def im (x : Str) : Option String := if x = "gcd" then some "math.gcd" else if x = "isqrt" then some "math.isqrt" else none
def bl : List Str := ["abs", "all", "bool", "int", "isinstance", "len", "list", "max", "min", "range", "repr", "sum", "tuple"]
abbrev g : Stat := statOf ds G im bl

theorem s_is_integer : DefS g i_is_integer := ⟨⟨rfl, rfl, rfl, by decide +kernel, rfl, by decide +kernel, by decide +kernel⟩, by decide +kernel, rfl, rfl, fun _ _ _ _ _ _ us hl => match us, hl with | [_], _ => rfl, fun z => nomatch z⟩
theorem s_is_between : DefS g i_is_between := ⟨⟨rfl, rfl, rfl, by decide +kernel, rfl, by decide +kernel, by decide +kernel⟩, by decide +kernel, rfl, rfl, fun _ _ _ _ _ _ us hl => match us, hl with | [_, _, _], _ => rfl, fun z => nomatch z⟩
theorem s_common : DefS g i_common := ⟨⟨rfl, rfl, rfl, by decide +kernel, rfl, by decide +kernel, by decide +kernel⟩, by decide +kernel, rfl, rfl, fun _ _ _ _ _ _ us hl => match us, hl with | [_, _], _ => rfl, fun z => nomatch z⟩
theorem s_reduced : DefS g i_reduced := ⟨⟨rfl, rfl, rfl, by decide +kernel, rfl, by decide +kernel, by decide +kernel⟩, by decide +kernel, rfl, rfl, fun _ _ _ _ _ _ us hl => match us, hl with | [_, _], _ => rfl, fun z => nomatch z⟩
theorem s_is_fraction : DefS g i_is_fraction := ⟨⟨rfl, rfl, rfl, by decide +kernel, rfl, by decide +kernel, by decide +kernel⟩, by decide +kernel, rfl, rfl, fun _ _ _ _ _ _ us hl => match us, hl with | [_], _ => rfl, fun z => nomatch z⟩
theorem s_is_told_fraction : DefS g i_is_told_fraction := ⟨⟨rfl, rfl, rfl, by decide +kernel, rfl, by decide +kernel, by decide +kernel⟩, by decide +kernel, rfl, rfl, fun _ _ _ _ _ _ us hl => match us, hl with | [_], _ => rfl, fun z => nomatch z⟩
theorem s_added : DefS g i_added := ⟨⟨rfl, rfl, rfl, by decide +kernel, rfl, by decide +kernel, by decide +kernel⟩, by decide +kernel, rfl, rfl, fun _ _ _ _ _ _ us hl => match us, hl with | [_, _], _ => rfl, fun z => nomatch z⟩
theorem s_difference : DefS g i_difference := ⟨⟨rfl, rfl, rfl, by decide +kernel, rfl, by decide +kernel, by decide +kernel⟩, by decide +kernel, rfl, rfl, fun _ _ _ _ _ _ us hl => match us, hl with | [_, _], _ => rfl, fun z => nomatch z⟩
theorem s_product_of : DefS g i_product_of := ⟨⟨rfl, rfl, rfl, by decide +kernel, rfl, by decide +kernel, by decide +kernel⟩, by decide +kernel, rfl, rfl, fun _ _ _ _ _ _ us hl => match us, hl with | [_, _], _ => rfl, fun z => nomatch z⟩
theorem s_quotient : DefS g i_quotient := ⟨⟨rfl, rfl, rfl, by decide +kernel, rfl, by decide +kernel, by decide +kernel⟩, by decide +kernel, rfl, rfl, fun _ _ _ _ _ _ us hl => match us, hl with | [_, _], _ => rfl, fun z => nomatch z⟩
theorem s_floor_root : DefS g i_floor_root := ⟨⟨rfl, rfl, rfl, by decide +kernel, rfl, by decide +kernel, by decide +kernel⟩, by decide +kernel, rfl, rfl, fun _ _ _ _ _ _ us hl => match us, hl with | [_], _ => rfl, fun z => nomatch z⟩
theorem s_is_square : DefS g i_is_square := ⟨⟨rfl, rfl, rfl, by decide +kernel, rfl, by decide +kernel, by decide +kernel⟩, by decide +kernel, rfl, rfl, fun _ _ _ _ _ _ us hl => match us, hl with | [_], _ => rfl, fun z => nomatch z⟩
theorem s_core_told : DefS g i_core_told := ⟨⟨rfl, rfl, rfl, by decide +kernel, rfl, by decide +kernel, by decide +kernel⟩, by decide +kernel, rfl, rfl, fun _ _ _ _ _ _ us hl => match us, hl with | [_], _ => rfl, fun z => nomatch z⟩
theorem s_is_field : DefS g i_is_field := ⟨⟨rfl, rfl, rfl, by decide +kernel, rfl, by decide +kernel, by decide +kernel⟩, by decide +kernel, rfl, rfl, fun _ _ _ _ _ _ us hl => match us, hl with | [_], _ => rfl, fun z => nomatch z⟩
theorem s_check_field : DefS g i_check_field := ⟨⟨rfl, rfl, rfl, by decide +kernel, rfl, by decide +kernel, by decide +kernel⟩, by decide +kernel, rfl, rfl, fun _ _ _ _ _ _ us hl => match us, hl with | [_], _ => rfl, fun z => nomatch z⟩
theorem s_is_surd : DefS g i_is_surd := ⟨⟨rfl, rfl, rfl, by decide +kernel, rfl, by decide +kernel, by decide +kernel⟩, by decide +kernel, rfl, rfl, fun _ _ _ _ _ _ us hl => match us, hl with | [_, _], _ => rfl, fun z => nomatch z⟩
theorem s_check_surd : DefS g i_check_surd := ⟨⟨rfl, rfl, rfl, by decide +kernel, rfl, by decide +kernel, by decide +kernel⟩, by decide +kernel, rfl, rfl, fun _ _ _ _ _ _ us hl => match us, hl with | [_, _], _ => rfl, fun z => nomatch z⟩
theorem s_surd_of : DefS g i_surd_of := ⟨⟨rfl, rfl, rfl, by decide +kernel, rfl, by decide +kernel, by decide +kernel⟩, by decide +kernel, rfl, rfl, fun _ _ _ _ _ _ us hl => match us, hl with | [_], _ => rfl, fun z => nomatch z⟩
theorem s_is_nothing : DefS g i_is_nothing := ⟨⟨rfl, rfl, rfl, by decide +kernel, rfl, by decide +kernel, by decide +kernel⟩, by decide +kernel, rfl, rfl, fun _ _ _ _ _ _ us hl => match us, hl with | [_], _ => rfl, fun z => nomatch z⟩
theorem s_surd_plus : DefS g i_surd_plus := ⟨⟨rfl, rfl, rfl, by decide +kernel, rfl, by decide +kernel, by decide +kernel⟩, by decide +kernel, rfl, rfl, fun _ _ _ _ _ _ us hl => match us, hl with | [_, _], _ => rfl, fun z => nomatch z⟩
theorem s_surd_less : DefS g i_surd_less := ⟨⟨rfl, rfl, rfl, by decide +kernel, rfl, by decide +kernel, by decide +kernel⟩, by decide +kernel, rfl, rfl, fun _ _ _ _ _ _ us hl => match us, hl with | [_, _], _ => rfl, fun z => nomatch z⟩
theorem s_surd_times : DefS g i_surd_times := ⟨⟨rfl, rfl, rfl, by decide +kernel, rfl, by decide +kernel, by decide +kernel⟩, by decide +kernel, rfl, rfl, fun _ _ _ _ _ _ us hl => match us, hl with | [_, _, _], _ => rfl, fun z => nomatch z⟩
theorem s_norm_of : DefS g i_norm_of := ⟨⟨rfl, rfl, rfl, by decide +kernel, rfl, by decide +kernel, by decide +kernel⟩, by decide +kernel, rfl, rfl, fun _ _ _ _ _ _ us hl => match us, hl with | [_, _], _ => rfl, fun z => nomatch z⟩
theorem s_surd_inverse : DefS g i_surd_inverse := ⟨⟨rfl, rfl, rfl, by decide +kernel, rfl, by decide +kernel, by decide +kernel⟩, by decide +kernel, rfl, rfl, fun _ _ _ _ _ _ us hl => match us, hl with | [_, _], _ => rfl, fun z => nomatch z⟩
theorem s_surd_by : DefS g i_surd_by := ⟨⟨rfl, rfl, rfl, by decide +kernel, rfl, by decide +kernel, by decide +kernel⟩, by decide +kernel, rfl, rfl, fun _ _ _ _ _ _ us hl => match us, hl with | [_, _, _], _ => rfl, fun z => nomatch z⟩
theorem s_sign_of : DefS g i_sign_of := ⟨⟨rfl, rfl, rfl, by decide +kernel, rfl, by decide +kernel, by decide +kernel⟩, by decide +kernel, rfl, rfl, fun _ _ _ _ _ _ us hl => match us, hl with | [_], _ => rfl, fun z => nomatch z⟩
theorem s_surd_sign : DefS g i_surd_sign := ⟨⟨rfl, rfl, rfl, by decide +kernel, rfl, by decide +kernel, by decide +kernel⟩, by decide +kernel, rfl, rfl, fun _ _ _ _ _ _ us hl => match us, hl with | [_, _], _ => rfl, fun z => nomatch z⟩
theorem s_surd_is_less : DefS g i_surd_is_less := ⟨⟨rfl, rfl, rfl, by decide +kernel, rfl, by decide +kernel, by decide +kernel⟩, by decide +kernel, rfl, rfl, fun _ _ _ _ _ _ us hl => match us, hl with | [_, _, _], _ => rfl, fun z => nomatch z⟩
theorem s_surd_floor : DefS g i_surd_floor := ⟨⟨rfl, rfl, rfl, by decide +kernel, rfl, by decide +kernel, by decide +kernel⟩, by decide +kernel, rfl, rfl, fun _ _ _ _ _ _ us hl => match us, hl with | [_, _], _ => rfl, fun z => nomatch z⟩
theorem s_fraction_between : DefS g i_fraction_between := ⟨⟨rfl, rfl, rfl, by decide +kernel, rfl, by decide +kernel, by decide +kernel⟩, by decide +kernel, rfl, rfl, fun _ _ _ _ _ _ us hl => match us, hl with | [_, _, _], _ => rfl, fun z => nomatch z⟩
theorem s_check_two_surds : DefS g i_check_two_surds := ⟨⟨rfl, rfl, rfl, by decide +kernel, rfl, by decide +kernel, by decide +kernel⟩, by decide +kernel, rfl, rfl, fun _ _ _ _ _ _ us hl => match us, hl with | [_, _, _], _ => rfl, fun z => nomatch z⟩
theorem s_surd_sum : DefS g i_surd_sum := ⟨⟨rfl, rfl, rfl, by decide +kernel, rfl, by decide +kernel, by decide +kernel⟩, by decide +kernel, rfl, rfl, fun _ _ _ _ _ _ us hl => match us, hl with | [_, _, _], _ => rfl, fun _ _ _ _ _ _ _ us hl => match us, hl with | [_, _, _], _ => rfl⟩
theorem s_surd_product : DefS g i_surd_product := ⟨⟨rfl, rfl, rfl, by decide +kernel, rfl, by decide +kernel, by decide +kernel⟩, by decide +kernel, rfl, rfl, fun _ _ _ _ _ _ us hl => match us, hl with | [_, _, _], _ => rfl, fun _ _ _ _ _ _ _ us hl => match us, hl with | [_, _, _], _ => rfl⟩
theorem s_surd_parted : DefS g i_surd_parted := ⟨⟨rfl, rfl, rfl, by decide +kernel, rfl, by decide +kernel, by decide +kernel⟩, by decide +kernel, rfl, rfl, fun _ _ _ _ _ _ us hl => match us, hl with | [_, _, _], _ => rfl, fun _ _ _ _ _ _ _ us hl => match us, hl with | [_, _, _], _ => rfl⟩
theorem s_surd_compared : DefS g i_surd_compared := ⟨⟨rfl, rfl, rfl, by decide +kernel, rfl, by decide +kernel, by decide +kernel⟩, by decide +kernel, rfl, rfl, fun _ _ _ _ _ _ us hl => match us, hl with | [_, _, _], _ => rfl, fun _ _ _ _ _ _ _ us hl => match us, hl with | [_, _, _], _ => rfl⟩
theorem s_surd_rounded : DefS g i_surd_rounded := ⟨⟨rfl, rfl, rfl, by decide +kernel, rfl, by decide +kernel, by decide +kernel⟩, by decide +kernel, rfl, rfl, fun _ _ _ _ _ _ us hl => match us, hl with | [_, _], _ => rfl, fun _ _ _ _ _ _ _ us hl => match us, hl with | [_, _], _ => rfl⟩
theorem s_surd_between : DefS g i_surd_between := ⟨⟨rfl, rfl, rfl, by decide +kernel, rfl, by decide +kernel, by decide +kernel⟩, by decide +kernel, rfl, rfl, fun _ _ _ _ _ _ us hl => match us, hl with | [_, _, _], _ => rfl, fun _ _ _ _ _ _ _ us hl => match us, hl with | [_, _, _], _ => rfl⟩
theorem s_surd_norm : DefS g i_surd_norm := ⟨⟨rfl, rfl, rfl, by decide +kernel, rfl, by decide +kernel, by decide +kernel⟩, by decide +kernel, rfl, rfl, fun _ _ _ _ _ _ us hl => match us, hl with | [_, _], _ => rfl, fun _ _ _ _ _ _ _ us hl => match us, hl with | [_, _], _ => rfl⟩
theorem s_law_pot : DefS g i_law_pot := ⟨⟨rfl, rfl, rfl, by decide +kernel, rfl, by decide +kernel, by decide +kernel⟩, by decide +kernel, rfl, rfl, fun _ _ _ _ _ _ us hl => match us, hl with | [_, _], _ => rfl, fun z => nomatch z⟩
theorem s_law_cells : DefS g i_law_cells := ⟨⟨rfl, rfl, rfl, by decide +kernel, rfl, by decide +kernel, by decide +kernel⟩, by decide +kernel, rfl, rfl, fun _ _ _ _ _ _ us hl => match us, hl with | [_, _], _ => rfl, fun z => nomatch z⟩
theorem s_law_s_is_below : DefS g i_law_s_is_below := ⟨⟨rfl, rfl, rfl, by decide +kernel, rfl, by decide +kernel, by decide +kernel⟩, by decide +kernel, rfl, rfl, fun _ _ _ _ _ _ us hl => match us, hl with | [_, _, _], _ => rfl, fun z => nomatch z⟩
theorem s_law_is_int : DefS g i_law_is_int := ⟨⟨rfl, rfl, rfl, by decide +kernel, rfl, by decide +kernel, by decide +kernel⟩, by decide +kernel, rfl, rfl, fun _ _ _ _ _ _ us hl => match us, hl with | [_], _ => rfl, fun z => nomatch z⟩
theorem s_law_is_fraction : DefS g i_law_is_fraction := ⟨⟨rfl, rfl, rfl, by decide +kernel, rfl, by decide +kernel, by decide +kernel⟩, by decide +kernel, rfl, rfl, fun _ _ _ _ _ _ us hl => match us, hl with | [_], _ => rfl, fun z => nomatch z⟩
theorem s_law_is_surd : DefS g i_law_is_surd := ⟨⟨rfl, rfl, rfl, by decide +kernel, rfl, by decide +kernel, by decide +kernel⟩, by decide +kernel, rfl, rfl, fun _ _ _ _ _ _ us hl => match us, hl with | [_, _], _ => rfl, fun z => nomatch z⟩
theorem s_law_less : DefS g i_law_less := ⟨⟨rfl, rfl, rfl, by decide +kernel, rfl, by decide +kernel, by decide +kernel⟩, by decide +kernel, rfl, rfl, fun _ _ _ _ _ _ us hl => match us, hl with | [_, _], _ => rfl, fun z => nomatch z⟩
theorem s_law_s_less : DefS g i_law_s_less := ⟨⟨rfl, rfl, rfl, by decide +kernel, rfl, by decide +kernel, by decide +kernel⟩, by decide +kernel, rfl, rfl, fun _ _ _ _ _ _ us hl => match us, hl with | [_, _], _ => rfl, fun z => nomatch z⟩
theorem s_law_s_sign : DefS g i_law_s_sign := ⟨⟨rfl, rfl, rfl, by decide +kernel, rfl, by decide +kernel, by decide +kernel⟩, by decide +kernel, rfl, rfl, fun _ _ _ _ _ _ us hl => match us, hl with | [_, _], _ => rfl, fun z => nomatch z⟩
theorem s_law_field : DefS g i_law_field := ⟨⟨rfl, rfl, rfl, by decide +kernel, rfl, by decide +kernel, by decide +kernel⟩, by decide +kernel, rfl, rfl, fun _ _ _ _ _ _ us hl => match us, hl with | [_], _ => rfl, fun z => nomatch z⟩
theorem s_law_times : DefS g i_law_times := ⟨⟨rfl, rfl, rfl, by decide +kernel, rfl, by decide +kernel, by decide +kernel⟩, by decide +kernel, rfl, rfl, fun _ _ _ _ _ _ us hl => match us, hl with | [_, _], _ => rfl, fun z => nomatch z⟩
theorem s_law_s_times : DefS g i_law_s_times := ⟨⟨rfl, rfl, rfl, by decide +kernel, rfl, by decide +kernel, by decide +kernel⟩, by decide +kernel, rfl, rfl, fun _ _ _ _ _ _ us hl => match us, hl with | [_, _, _], _ => rfl, fun z => nomatch z⟩
theorem s_law_s_power : DefS g i_law_s_power := ⟨⟨rfl, rfl, rfl, by decide +kernel, rfl, by decide +kernel, by decide +kernel⟩, by decide +kernel, rfl, rfl, fun _ _ _ _ _ _ us hl => match us, hl with | [_, _, _], _ => rfl, fun z => nomatch z⟩
theorem s_law_plus : DefS g i_law_plus := ⟨⟨rfl, rfl, rfl, by decide +kernel, rfl, by decide +kernel, by decide +kernel⟩, by decide +kernel, rfl, rfl, fun _ _ _ _ _ _ us hl => match us, hl with | [_, _], _ => rfl, fun z => nomatch z⟩
theorem s_law_s_plus : DefS g i_law_s_plus := ⟨⟨rfl, rfl, rfl, by decide +kernel, rfl, by decide +kernel, by decide +kernel⟩, by decide +kernel, rfl, rfl, fun _ _ _ _ _ _ us hl => match us, hl with | [_, _], _ => rfl, fun z => nomatch z⟩
theorem s_law_of : DefS g i_law_of := ⟨⟨rfl, rfl, rfl, by decide +kernel, rfl, by decide +kernel, by decide +kernel⟩, by decide +kernel, rfl, rfl, fun _ _ _ _ _ _ us hl => match us, hl with | [_, _], _ => rfl, fun z => nomatch z⟩
theorem s_law_take : DefS g i_law_take := ⟨⟨rfl, rfl, rfl, by decide +kernel, rfl, by decide +kernel, by decide +kernel⟩, by decide +kernel, rfl, rfl, fun _ _ _ _ _ _ us hl => match us, hl with | [_, _], _ => rfl, fun z => nomatch z⟩
theorem s_law_reduced : DefS g i_law_reduced := ⟨⟨rfl, rfl, rfl, by decide +kernel, rfl, by decide +kernel, by decide +kernel⟩, by decide +kernel, rfl, rfl, fun _ _ _ _ _ _ us hl => match us, hl with | [_, _], _ => rfl, fun z => nomatch z⟩
theorem s_law_number : DefS g i_law_number := ⟨⟨rfl, rfl, rfl, by decide +kernel, rfl, by decide +kernel, by decide +kernel⟩, by decide +kernel, rfl, rfl, fun _ _ _ _ _ _ us hl => match us, hl with | [_], _ => rfl, fun z => nomatch z⟩
theorem s_law_surd : DefS g i_law_surd := ⟨⟨rfl, rfl, rfl, by decide +kernel, rfl, by decide +kernel, by decide +kernel⟩, by decide +kernel, rfl, rfl, fun _ _ _ _ _ _ us hl => match us, hl with | [_, _], _ => rfl, fun z => nomatch z⟩
theorem s_law_pair : DefS g i_law_pair := ⟨⟨rfl, rfl, rfl, by decide +kernel, rfl, by decide +kernel, by decide +kernel⟩, by decide +kernel, rfl, rfl, fun _ _ _ _ _ _ us hl => match us, hl with | [_, _], _ => rfl, fun z => nomatch z⟩
theorem s_law_right : DefS g i_law_right := ⟨⟨rfl, rfl, rfl, by decide +kernel, rfl, by decide +kernel, by decide +kernel⟩, by decide +kernel, rfl, rfl, fun _ _ _ _ _ _ us hl => match us, hl with | [_], _ => rfl, fun z => nomatch z⟩
theorem s_law_is_between_right : DefS g i_law_is_between_right := ⟨⟨rfl, rfl, rfl, by decide +kernel, rfl, by decide +kernel, by decide +kernel⟩, by decide +kernel, rfl, rfl, fun _ _ _ _ _ _ us hl => match us, hl with | [_, _, _], _ => rfl, fun z => nomatch z⟩
theorem s_law : DefS g i_law := ⟨⟨rfl, rfl, rfl, by decide +kernel, rfl, by decide +kernel, by decide +kernel⟩, by decide +kernel, rfl, rfl, fun _ _ _ _ _ _ us hl => match us, hl with | [_], _ => rfl, fun z => nomatch z⟩
end K26
set_option Elab.async false
set_option maxRecDepth 100000
set_option linter.unusedVariables false
/-! from the top's facts to the law -/
namespace K26
open PySem PySem.Spec PyProof.Rows L2 Pv
/-- a def as the top has written it -/
def Def1 (K : PySem.W.Frag) (i : DefI) : Prop := ∃ (f : Addr) (fd : FuncData), PySem.W.nsIn K mainGlobals i.name = some (some (.ref f)) ∧ Fun K i.name i.name i.st f fd
theorem def1_mk {K : PySem.W.Frag} {h : Heap} (KX : K.In h) (i : DefI) {f : Addr} {od an : Option Addr} {sl : Array (Option Value)} {oc kV dc pm cd ct : Value} (a : PySem.W.nsIn K mainGlobals i.name = some (some (.ref f)))
    (l : K.lookup f = some ⟨oc, od, .func (PySem.W.fnOf i.name i.name (defArgs i.st) (defBody i.st) (defScope i.st) .none kV dc pm an cd ct), sl⟩) (c : PySem.W.codeIn K cd i.name = true) (k : PySem.W.keepIn K (.ref f) = true) : Def1 K i :=
  ⟨f, _, a, fun_mk l c k⟩
theorem all_s : ∀ (k : Nat) (i : DefI), ds[k]? = some i → DefS g i := by
  have key : ∀ l : List DefI, (∀ i ∈ l, DefS g i) → ∀ (k : Nat) (i : DefI), l[k]? = some i → DefS g i := fun l h k i e => h i (List.mem_of_getElem? e)
  refine key ds fun i hi => ?_
  simp only [ds, List.mem_cons, List.not_mem_nil, or_false] at hi

  rcases hi with rfl | rfl | rfl | rfl | rfl | rfl | rfl | rfl | rfl | rfl | rfl | rfl | rfl | rfl | rfl | rfl | rfl | rfl | rfl | rfl | rfl | rfl | rfl | rfl | rfl | rfl | rfl | rfl | rfl | rfl | rfl | rfl | rfl | rfl | rfl | rfl | rfl | rfl | rfl | rfl | rfl | rfl | rfl | rfl | rfl | rfl | rfl | rfl | rfl | rfl | rfl | rfl | rfl | rfl | rfl | rfl | rfl | rfl | rfl | rfl | rfl | rfl
  · exact s_is_integer
  · exact s_is_between
  · exact s_common
  · exact s_reduced
  · exact s_is_fraction
  · exact s_is_told_fraction
  · exact s_added
  · exact s_difference
  · exact s_product_of
  · exact s_quotient
  · exact s_floor_root
  · exact s_is_square
  · exact s_core_told
  · exact s_is_field
  · exact s_check_field
  · exact s_is_surd
  · exact s_check_surd
  · exact s_surd_of
  · exact s_is_nothing
  · exact s_surd_plus
  · exact s_surd_less
  · exact s_surd_times
  · exact s_norm_of
  · exact s_surd_inverse
  · exact s_surd_by
  · exact s_sign_of
  · exact s_surd_sign
  · exact s_surd_is_less
  · exact s_surd_floor
  · exact s_fraction_between
  · exact s_check_two_surds
  · exact s_surd_sum
  · exact s_surd_product
  · exact s_surd_parted
  · exact s_surd_compared
  · exact s_surd_rounded
  · exact s_surd_between
  · exact s_surd_norm
  · exact s_law_pot
  · exact s_law_cells
  · exact s_law_s_is_below
  · exact s_law_is_int
  · exact s_law_is_fraction
  · exact s_law_is_surd
  · exact s_law_less
  · exact s_law_s_less
  · exact s_law_s_sign
  · exact s_law_field
  · exact s_law_times
  · exact s_law_s_times
  · exact s_law_s_power
  · exact s_law_plus
  · exact s_law_s_plus
  · exact s_law_of
  · exact s_law_take
  · exact s_law_reduced
  · exact s_law_number
  · exact s_law_surd
  · exact s_law_pair
  · exact s_law_right
  · exact s_law_is_between_right
  · exact s_law
theorem all_k {K : PySem.W.Frag} {h : Heap} {mg : Str → Option Value} (KX : K.In h) (Gs : h.Ns mainGlobals mg)
    (h_is_integer : Def1 K i_is_integer)
    (h_is_between : Def1 K i_is_between)
    (h_common : Def1 K i_common)
    (h_reduced : Def1 K i_reduced)
    (h_is_fraction : Def1 K i_is_fraction)
    (h_is_told_fraction : Def1 K i_is_told_fraction)
    (h_added : Def1 K i_added)
    (h_difference : Def1 K i_difference)
    (h_product_of : Def1 K i_product_of)
    (h_quotient : Def1 K i_quotient)
    (h_floor_root : Def1 K i_floor_root)
    (h_is_square : Def1 K i_is_square)
    (h_core_told : Def1 K i_core_told)
    (h_is_field : Def1 K i_is_field)
    (h_check_field : Def1 K i_check_field)
    (h_is_surd : Def1 K i_is_surd)
    (h_check_surd : Def1 K i_check_surd)
    (h_surd_of : Def1 K i_surd_of)
    (h_is_nothing : Def1 K i_is_nothing)
    (h_surd_plus : Def1 K i_surd_plus)
    (h_surd_less : Def1 K i_surd_less)
    (h_surd_times : Def1 K i_surd_times)
    (h_norm_of : Def1 K i_norm_of)
    (h_surd_inverse : Def1 K i_surd_inverse)
    (h_surd_by : Def1 K i_surd_by)
    (h_sign_of : Def1 K i_sign_of)
    (h_surd_sign : Def1 K i_surd_sign)
    (h_surd_is_less : Def1 K i_surd_is_less)
    (h_surd_floor : Def1 K i_surd_floor)
    (h_fraction_between : Def1 K i_fraction_between)
    (h_check_two_surds : Def1 K i_check_two_surds)
    (h_surd_sum : Def1 K i_surd_sum)
    (h_surd_product : Def1 K i_surd_product)
    (h_surd_parted : Def1 K i_surd_parted)
    (h_surd_compared : Def1 K i_surd_compared)
    (h_surd_rounded : Def1 K i_surd_rounded)
    (h_surd_between : Def1 K i_surd_between)
    (h_surd_norm : Def1 K i_surd_norm)
    (h_law_pot : Def1 K i_law_pot)
    (h_law_cells : Def1 K i_law_cells)
    (h_law_s_is_below : Def1 K i_law_s_is_below)
    (h_law_is_int : Def1 K i_law_is_int)
    (h_law_is_fraction : Def1 K i_law_is_fraction)
    (h_law_is_surd : Def1 K i_law_is_surd)
    (h_law_less : Def1 K i_law_less)
    (h_law_s_less : Def1 K i_law_s_less)
    (h_law_s_sign : Def1 K i_law_s_sign)
    (h_law_field : Def1 K i_law_field)
    (h_law_times : Def1 K i_law_times)
    (h_law_s_times : Def1 K i_law_s_times)
    (h_law_s_power : Def1 K i_law_s_power)
    (h_law_plus : Def1 K i_law_plus)
    (h_law_s_plus : Def1 K i_law_s_plus)
    (h_law_of : Def1 K i_law_of)
    (h_law_take : Def1 K i_law_take)
    (h_law_reduced : Def1 K i_law_reduced)
    (h_law_number : Def1 K i_law_number)
    (h_law_surd : Def1 K i_law_surd)
    (h_law_pair : Def1 K i_law_pair)
    (h_law_right : Def1 K i_law_right)
    (h_law_is_between_right : Def1 K i_law_is_between_right)
    (h_law : Def1 K i_law)
    {t1 t2 : Tok} {zB : Int} {aN : Addr} {oN : Obj} {vN : Array Value} {nN : Nat} (gB : PySem.W.nsIn K mainGlobals "BEYOND" = some (some (.int zB t1))) (eB : zB = z_BEYOND) (gM : PySem.W.nsIn K mainGlobals "MOST_PRIME" = some (some (.int 10000 t2)))
    (gN : PySem.W.nsIn K mainGlobals "NOTHING" = some (some (.ref aN))) (lN : K.lookup aN = some oN) (cN : oN.cls = .type "tuple") (dN : oN.data = .seq vN nN) {u1 u2 : Tok} (eN : vN = #[.int 0 u1, .int 1 u2])
    (gcd_ : PySem.W.nsIn K mainGlobals "gcd" = some (some (.builtin "math.gcd"))) (isqrt_ : PySem.W.nsIn K mainGlobals "isqrt" = some (some (.builtin "math.isqrt")))
    (bl_ : ∀ x ∈ bl, PySem.W.nsIn K mainGlobals x = some none) : TabK g ds K mg := by
  have mk : ∀ i : DefI, Def1 K i → ∃ f fd, mg i.name = some (.ref f) ∧ Fun K i.name i.name i.st f fd := fun i ⟨f, fd, a, F⟩ => ⟨f, fd, PySem.W.mg_of KX Gs a, F⟩
  refine ⟨?_, ?_, fun x hx => ?_, ?_⟩
  · have key : ∀ l : List DefI, (∀ i ∈ l, Def1 K i) → ∀ (k : Nat) (i : DefI), l[k]? = some i → ∃ f fd, mg i.name = some (.ref f) ∧ Fun K i.name i.name i.st f fd := fun l h k i e => mk i (h i (List.mem_of_getElem? e))
    refine key ds fun i hi => ?_
    simp only [ds, List.mem_cons, List.not_mem_nil, or_false] at hi
    rcases hi with rfl | rfl | rfl | rfl | rfl | rfl | rfl | rfl | rfl | rfl | rfl | rfl | rfl | rfl | rfl | rfl | rfl | rfl | rfl | rfl | rfl | rfl | rfl | rfl | rfl | rfl | rfl | rfl | rfl | rfl | rfl | rfl | rfl | rfl | rfl | rfl | rfl | rfl | rfl | rfl | rfl | rfl | rfl | rfl | rfl | rfl | rfl | rfl | rfl | rfl | rfl | rfl | rfl | rfl | rfl | rfl | rfl | rfl | rfl | rfl | rfl | rfl
    · exact h_is_integer
    · exact h_is_between
    · exact h_common
    · exact h_reduced
    · exact h_is_fraction
    · exact h_is_told_fraction
    · exact h_added
    · exact h_difference
    · exact h_product_of
    · exact h_quotient
    · exact h_floor_root
    · exact h_is_square
    · exact h_core_told
    · exact h_is_field
    · exact h_check_field
    · exact h_is_surd
    · exact h_check_surd
    · exact h_surd_of
    · exact h_is_nothing
    · exact h_surd_plus
    · exact h_surd_less
    · exact h_surd_times
    · exact h_norm_of
    · exact h_surd_inverse
    · exact h_surd_by
    · exact h_sign_of
    · exact h_surd_sign
    · exact h_surd_is_less
    · exact h_surd_floor
    · exact h_fraction_between
    · exact h_check_two_surds
    · exact h_surd_sum
    · exact h_surd_product
    · exact h_surd_parted
    · exact h_surd_compared
    · exact h_surd_rounded
    · exact h_surd_between
    · exact h_surd_norm
    · exact h_law_pot
    · exact h_law_cells
    · exact h_law_s_is_below
    · exact h_law_is_int
    · exact h_law_is_fraction
    · exact h_law_is_surd
    · exact h_law_less
    · exact h_law_s_less
    · exact h_law_s_sign
    · exact h_law_field
    · exact h_law_times
    · exact h_law_s_times
    · exact h_law_s_power
    · exact h_law_plus
    · exact h_law_s_plus
    · exact h_law_of
    · exact h_law_take
    · exact h_law_reduced
    · exact h_law_number
    · exact h_law_surd
    · exact h_law_pair
    · exact h_law_right
    · exact h_law_is_between_right
    · exact h_law
  · intro x dt hx
    have hx : G x = some dt := hx
    unfold G at hx
    split at hx
    · rename_i e; subst e
      cases hx
      exact ⟨_, .int _, PySem.W.mg_of KX Gs gB, ⟨_, rfl⟩, fun H av => by rw [eB]; exact Rep.int _⟩
    · split at hx
      · rename_i e; subst e
        cases hx
        exact ⟨_, .int _, PySem.W.mg_of KX Gs gM, ⟨_, rfl⟩, fun H av => Rep.int _⟩
      · split at hx
        · rename_i e; subst e
          cases hx
          refine ⟨_, .ref aN, PySem.W.mg_of KX Gs gN, rfl, fun H av => Rep.tupK (vs := [.int 0, .int 1]) ⟨oN, vN, nN, lN, cN, dN, by rw [eN]; show 2 ≤ sizeLine; decide, by rw [eN]; exact .cons ⟨_, rfl⟩ (.cons ⟨_, rfl⟩ .nil)⟩ (.cons (.int _) (.cons (.int _) .nil))⟩
        · cases hx
  · exact PySem.W.mg_none_of KX Gs (bl_ x hx)
  · intro x id hx
    have hx : im x = some id := hx
    unfold im at hx
    split at hx
    · rename_i e; subst e
      cases hx
      exact PySem.W.mg_of KX Gs gcd_
    · split at hx
      · rename_i e; subst e
        cases hx
        exact PySem.W.mg_of KX Gs isqrt_
      · cases hx
end K26
set_option Elab.async false
set_option maxRecDepth 100000
set_option linter.unusedVariables false
/-! M1: fractions. -/
namespace K26
open PySem Pv L2
abbrev CF (F d k : Nat) (as : List A) (S : Sto) : R A := callF (tabT ds) F d k as S
theorem w_common (F d : Nat) (hd : 1 ≤ d) (a b : Int) (S : Sto) : CF F d 2 [.d (.int a), .d (.int b)] S = .ok (.d (.int (Nat.gcd a.natAbs b.natAbs : Nat))) S := by
  obtain ⟨d, rfl⟩ : ∃ e, d = e + 1 := ⟨d - 1, by omega⟩
  refine (cf_eq (f := i_common.fn) rfl rfl).trans ?_
  simp [i_common, b_common, Pv.start]
/-- a fraction -/
def eq (q : Rat) : PyData := .tuple [.int q.num, .int (q.den : Int)]
@[simp] theorem ix_eq0 {q : Rat} : ixD (eq q) (.int 0) = some (.int q.num) := by simp [eq]
@[simp] theorem ix_eq1 {q : Rat} : ixD (eq q) (.int 1) = some (.int (q.den : Int)) := by simp [eq]
def sz (n : Nat) (q : Rat) : Prop := q.num.natAbs < 2 ^ n ∧ q.den < 2 ^ n
theorem sz.mono {n m : Nat} {q : Rat} (h : sz n q) (l : n ≤ m) : sz m q :=
  ⟨Nat.lt_of_lt_of_le h.1 (Nat.pow_le_pow_right (by omega) l), Nat.lt_of_lt_of_le h.2 (Nat.pow_le_pow_right (by omega) l)⟩
theorem di_num {t l : Int} (h : l ≠ 0) : (Rat.divInt t l).num = l.sign * t / (Nat.gcd t.natAbs l.natAbs : Nat) := by
  rw [Rat.num_divInt]
  rw [show (l.gcd t : Nat) = Nat.gcd t.natAbs l.natAbs from Nat.gcd_comm _ _]
theorem di_den {t l : Int} (h : l ≠ 0) : (Rat.divInt t l).den = l.natAbs / Nat.gcd t.natAbs l.natAbs := by
  rw [Rat.den_divInt, if_neg h]
  rw [show (l.gcd t : Nat) = Nat.gcd t.natAbs l.natAbs from Nat.gcd_comm _ _]
theorem di_sz {t l : Int} {n : Nat} (h : l ≠ 0) (ht : t.natAbs < 2 ^ n) (hl : l.natAbs < 2 ^ n) : sz n (Rat.divInt t l) := by
  constructor
  · rw [di_num h]
    refine Nat.lt_of_le_of_lt ?_ ht
    have h1 : (l.sign * t / (Nat.gcd t.natAbs l.natAbs : Nat)).natAbs ≤ (l.sign * t).natAbs := Int.natAbs_ediv_le_natAbs _ _
    have h2 : (l.sign * t).natAbs ≤ t.natAbs := by
      rw [Int.natAbs_mul]
      have : l.sign.natAbs ≤ 1 := by
        rcases Int.lt_trichotomy l 0 with h | h | h
        · rw [Int.sign_eq_neg_one_of_neg h]; decide
        · subst h; decide
        · rw [Int.sign_eq_one_of_pos h]; decide
      calc l.sign.natAbs * t.natAbs ≤ 1 * t.natAbs := Nat.mul_le_mul_right _ this
        _ = t.natAbs := Nat.one_mul _
    omega
  · rw [di_den h]
    exact Nat.lt_of_le_of_lt (Nat.div_le_self _ _) hl
theorem gcd_pos' {t l : Int} (h : l ≠ 0) : 0 < Nat.gcd t.natAbs l.natAbs := Nat.gcd_pos_of_pos_right _ (by omega)
/-- both parts by the signed measure -/
theorem fdiv_num {t l : Int} (h : l ≠ 0) : t.fdiv (if 0 < l then (Nat.gcd t.natAbs l.natAbs : Nat) else 0 - (Nat.gcd t.natAbs l.natAbs : Nat) : Int) = (Rat.divInt t l).num := by
  rw [di_num h]
  have hg := gcd_pos' (t := t) h
  have hd : ((Nat.gcd t.natAbs l.natAbs : Nat) : Int) ∣ t := Int.ofNat_dvd_left.mpr (Nat.gcd_dvd_left _ _)
  generalize Nat.gcd t.natAbs l.natAbs = g at hg hd
  obtain ⟨q, rfl⟩ := hd
  have hg' : (g : Int) ≠ 0 := by omega
  split
  · rename_i hl
    rw [Int.sign_eq_one_of_pos hl, Int.one_mul, Int.mul_ediv_cancel_left _ hg', Int.mul_fdiv_cancel_left _ hg']
  · rename_i hl
    rw [Int.sign_eq_neg_one_of_neg (by omega)]
    rw [show (g : Int) * q = (0 - (g : Int)) * (-q) by grind, Int.mul_fdiv_cancel_left _ (by omega)]
    rw [show -1 * ((0 - (g : Int)) * -q) = g * (-q) by grind, Int.mul_ediv_cancel_left _ hg']
theorem fdiv_den {t l : Int} (h : l ≠ 0) : l.fdiv (if 0 < l then (Nat.gcd t.natAbs l.natAbs : Nat) else 0 - (Nat.gcd t.natAbs l.natAbs : Nat) : Int) = ((Rat.divInt t l).den : Int) := by
  rw [di_den h]
  have hg := gcd_pos' (t := t) h
  have hd : ((Nat.gcd t.natAbs l.natAbs : Nat) : Int) ∣ l := Int.ofNat_dvd_left.mpr (Nat.gcd_dvd_right _ _)
  generalize Nat.gcd t.natAbs l.natAbs = g at hg hd
  obtain ⟨q, rfl⟩ := hd
  have hg' : (g : Int) ≠ 0 := by omega
  have e : ((g : Int) * q).natAbs / g = q.natAbs := by
    rw [Int.natAbs_mul, Int.natAbs_natCast, Nat.mul_div_cancel_left _ hg]
  rw [e]
  split
  · rename_i hl
    have : 0 < q := Int.pos_of_mul_pos_right hl (by omega)
    rw [Int.mul_fdiv_cancel_left _ hg']; omega
  · rename_i hl
    have hl2 : (g : Int) * q < 0 := by omega
    have : q < 0 := by
      rcases Int.lt_or_le q 0 with h | h
      · exact h
      · have := Int.mul_nonneg (show (0 : Int) ≤ g by omega) h; omega
    rw [show (g : Int) * q = (0 - (g : Int)) * (-q) by grind, Int.mul_fdiv_cancel_left _ (by omega)]; omega
theorem w_reduced (F d : Nat) (hd : 2 ≤ d) {t l : Int} (h : l ≠ 0) (hl : l.natAbs < 2 ^ 8999) (S : Sto) : CF F d 3 [.d (.int t), .d (.int l)] S = .ok (.d (eq (Rat.divInt t l))) S := by
  obtain ⟨d, rfl⟩ : ∃ e, d = e + 1 := ⟨d - 1, by omega⟩
  refine (cf_eq (f := i_reduced.fn) rfl rfl).trans ?_
  have hg := gcd_pos' (t := t) h
  have hle : Nat.gcd t.natAbs l.natAbs ≤ l.natAbs := Nat.le_of_dvd (by omega) (Nat.gcd_dvd_right _ _)
  have n1 := fdiv_num (t := t) h
  have n2 := fdiv_den (t := t) h
  by_cases hp : 0 < l
  · rw [if_pos hp] at n1 n2
    have dv : divOk ((Nat.gcd t.natAbs l.natAbs : Nat) : Int) = true := div_ok (m := 8999) (by omega) (by rw [Int.natAbs_natCast]; omega) (by omega)
    simp [i_reduced, b_reduced, Pv.start, w_common F d (by omega), hp, dv, eq, n1, n2]
  · rw [if_neg hp] at n1 n2
    have dv : divOk (0 - ((Nat.gcd t.natAbs l.natAbs : Nat) : Int)) = true := div_ok (m := 8999) (by omega) (by omega) (by omega)
    have n1' : t.fdiv (-((Nat.gcd t.natAbs l.natAbs : Nat) : Int)) = (Rat.divInt t l).num := by rw [← n1]; congr 1; omega
    have n2' : l.fdiv (-((Nat.gcd t.natAbs l.natAbs : Nat) : Int)) = ((Rat.divInt t l).den : Int) := by rw [← n2]; congr 1; omega
    have dv' : divOk (-((Nat.gcd t.natAbs l.natAbs : Nat) : Int)) = true := by rw [← dv]; congr 1; omega
    simp [i_reduced, b_reduced, Pv.start, w_common F d (by omega), hp, dv', eq, n1', n2']
end K26
set_option Elab.async false
set_option maxRecDepth 100000
set_option linter.unusedVariables false
/-! M2: the four operations, in the program's words and in the law's. -/
namespace K26
open PySem Pv L2
theorem den_ne (q : Rat) : (q.den : Int) ≠ 0 := by have := q.den_pos; omega
theorem add_di (a b : Rat) : a + b = Rat.divInt (a.num * b.den + b.num * a.den) (a.den * b.den) := by
  rw [Rat.add_def', ← Rat.divInt_ofNat]; push_cast; rfl
theorem sub_di (a b : Rat) : a - b = Rat.divInt (a.num * b.den - b.num * a.den) (a.den * b.den) := by
  rw [Rat.sub_def', ← Rat.divInt_ofNat]; push_cast; rfl
theorem mul_di (a b : Rat) : a * b = Rat.divInt (a.num * b.num) (a.den * b.den) := by
  rw [Rat.mul_def', ← Rat.divInt_ofNat]; push_cast; rfl
theorem nab_mul {x y : Int} {n m : Nat} (hx : x.natAbs < 2 ^ n) (hy : y.natAbs < 2 ^ m) : (x * y).natAbs < 2 ^ (n + m) := by
  rw [Int.natAbs_mul, Nat.pow_add]
  exact Nat.mul_lt_mul'' hx hy
theorem nab_add {x y : Int} {n : Nat} (hx : x.natAbs < 2 ^ n) (hy : y.natAbs < 2 ^ n) : (x + y).natAbs < 2 ^ (n + 1) := by
  rw [Nat.pow_succ]
  have := Int.natAbs_add_le x y
  omega
theorem nab_sub {x y : Int} {n : Nat} (hx : x.natAbs < 2 ^ n) (hy : y.natAbs < 2 ^ n) : (x - y).natAbs < 2 ^ (n + 1) := by
  rw [Nat.pow_succ]
  have := Int.natAbs_sub_le x y
  omega
theorem nab_cast {k n : Nat} (h : k < 2 ^ n) : (k : Int).natAbs < 2 ^ n := by rw [Int.natAbs_natCast]; exact h
theorem nab_le {x : Int} {n m : Nat} (h : x.natAbs < 2 ^ n) (l : n ≤ m) : x.natAbs < 2 ^ m := Nat.lt_of_lt_of_le h (Nat.pow_le_pow_right (by omega) l)
section
variable {a b : Rat} {n m : Nat}
theorem dd_ne : ((a.den : Int) * b.den) ≠ 0 := by
  have h1 := den_ne a
  have h2 := den_ne b
  exact Int.mul_ne_zero h1 h2
theorem sz_dd (ha : sz n a) (hb : sz m b) : ((a.den : Int) * b.den).natAbs < 2 ^ (n + m) := nab_mul (nab_cast ha.2) (nab_cast hb.2)
theorem sz_n1 (ha : sz n a) (hb : sz m b) : (a.num * b.den).natAbs < 2 ^ (n + m) := nab_mul ha.1 (nab_cast hb.2)
theorem sz_n2 (ha : sz n a) (hb : sz m b) : (b.num * a.den).natAbs < 2 ^ (n + m) := by rw [Nat.add_comm]; exact nab_mul hb.1 (nab_cast ha.2)
theorem sz_add (ha : sz n a) (hb : sz m b) : sz (n + m + 1) (a + b) := by
  rw [add_di]
  exact di_sz dd_ne (nab_add (sz_n1 ha hb) (sz_n2 ha hb)) (nab_le (sz_dd ha hb) (by omega))
theorem sz_sub (ha : sz n a) (hb : sz m b) : sz (n + m + 1) (a - b) := by
  rw [sub_di]
  exact di_sz dd_ne (nab_sub (sz_n1 ha hb) (sz_n2 ha hb)) (nab_le (sz_dd ha hb) (by omega))
theorem sz_mul (ha : sz n a) (hb : sz m b) : sz (n + m) (a * b) := by
  rw [mul_di]
  exact di_sz dd_ne (nab_mul ha.1 hb.1) (sz_dd ha hb)
theorem div_di (hb : b ≠ 0) : a / b = Rat.divInt (a.num * b.den) (a.den * b.num) := by
  have h1 : b.num ≠ 0 := fun z => hb (Rat.num_eq_zero.mp z)
  have e1 : a = Rat.divInt a.num a.den := (Rat.num_divInt_den a).symm
  have e2 : b⁻¹ = Rat.divInt b.den b.num := by
    conv => lhs; rw [← Rat.num_divInt_den b]
    rw [Rat.inv_divInt]
  rw [Rat.div_def, e2]
  conv => lhs; rw [e1]
  rw [Rat.divInt_mul_divInt]
theorem dn_ne (hb : b ≠ 0) : ((a.den : Int) * b.num) ≠ 0 := Int.mul_ne_zero (den_ne a) fun z => hb (Rat.num_eq_zero.mp z)
theorem sz_div (hb0 : b ≠ 0) (ha : sz n a) (hb : sz m b) : sz (n + m) (a / b) := by
  rw [div_di hb0]
  exact di_sz (dn_ne hb0) (nab_mul ha.1 (nab_cast hb.2)) (nab_mul (nab_cast ha.2) hb.1)
theorem mk1 (ha : sz n a) (hb : sz m b) (h : n + m < 8999) : mulOk a.num b.den = true := mul_ok ha.1 (nab_cast hb.2) (by omega)
theorem mk2 (ha : sz n a) (hb : sz m b) (h : n + m < 8999) : mulOk b.num a.den = true := mul_ok hb.1 (nab_cast ha.2) (by omega)
theorem mk3 (ha : sz n a) (hb : sz m b) (h : n + m < 8999) : mulOk (a.den : Int) b.den = true := mul_ok (nab_cast ha.2) (nab_cast hb.2) (by omega)
theorem mk4 (ha : sz n a) (hb : sz m b) (h : n + m < 8999) : mulOk a.num b.num = true := mul_ok ha.1 hb.1 (by omega)
theorem mk5 (ha : sz n a) (hb : sz m b) (h : n + m < 8999) : mulOk (a.den : Int) b.num = true := mul_ok (nab_cast ha.2) hb.1 (by omega)
theorem w_added (F d : Nat) (hd : 3 ≤ d) (ha : sz n a) (hb : sz m b) (h : n + m < 8999) (S : Sto) : CF F d 6 [.d (eq a), .d (eq b)] S = .ok (.d (eq (a + b))) S := by
  obtain ⟨d, rfl⟩ : ∃ e, d = e + 1 := ⟨d - 1, by omega⟩
  refine (cf_eq (f := i_added.fn) rfl rfl).trans ?_
  have key := w_reduced F d (by omega) (t := a.num * b.den + b.num * a.den) (dd_ne (a := a) (b := b)) (nab_le (sz_dd ha hb) (by omega)) S
  simp [i_added, b_added, Pv.start, mk1 ha hb h, mk2 ha hb h, mk3 ha hb h, key, add_di a b]
theorem w_difference (F d : Nat) (hd : 3 ≤ d) (ha : sz n a) (hb : sz m b) (h : n + m < 8999) (S : Sto) : CF F d 7 [.d (eq a), .d (eq b)] S = .ok (.d (eq (a - b))) S := by
  obtain ⟨d, rfl⟩ : ∃ e, d = e + 1 := ⟨d - 1, by omega⟩
  refine (cf_eq (f := i_difference.fn) rfl rfl).trans ?_
  have key := w_reduced F d (by omega) (t := a.num * b.den - b.num * a.den) (dd_ne (a := a) (b := b)) (nab_le (sz_dd ha hb) (by omega)) S
  simp [i_difference, b_difference, Pv.start, mk1 ha hb h, mk2 ha hb h, mk3 ha hb h, key, sub_di a b]
theorem w_product (F d : Nat) (hd : 3 ≤ d) (ha : sz n a) (hb : sz m b) (h : n + m < 8999) (S : Sto) : CF F d 8 [.d (eq a), .d (eq b)] S = .ok (.d (eq (a * b))) S := by
  obtain ⟨d, rfl⟩ : ∃ e, d = e + 1 := ⟨d - 1, by omega⟩
  refine (cf_eq (f := i_product_of.fn) rfl rfl).trans ?_
  have key := w_reduced F d (by omega) (t := a.num * b.num) (dd_ne (a := a) (b := b)) (nab_le (sz_dd ha hb) (by omega)) S
  simp [i_product_of, b_product_of, Pv.start, mk4 ha hb h, mk3 ha hb h, key, mul_di a b]
theorem w_quotient (F d : Nat) (hd : 3 ≤ d) (hb0 : b ≠ 0) (ha : sz n a) (hb : sz m b) (h : n + m < 8999) (S : Sto) : CF F d 9 [.d (eq a), .d (eq b)] S = .ok (.d (eq (a / b))) S := by
  obtain ⟨d, rfl⟩ : ∃ e, d = e + 1 := ⟨d - 1, by omega⟩
  refine (cf_eq (f := i_quotient.fn) rfl rfl).trans ?_
  have key := w_reduced F d (by omega) (t := a.num * b.den) (dn_ne (a := a) hb0) (nab_le (nab_mul (nab_cast ha.2) hb.1) (by omega)) S
  simp [i_quotient, b_quotient, Pv.start, mk1 ha hb h, mk5 ha hb h, key, div_di hb0]
end
/-! ### the law's own -/
theorem gcd_loop (c : Nat → List A → Sto → R A) (F : Nat) : ∀ (y x fuel : Nat) (u v w : Option A) (S : Sto), y < fuel →
    whlGo (tstF ⟨c, F⟩ (.cmp .ne (.v 4) (.k (.int 0)))) (bodyF ⟨c, F⟩ (.cons (.par 3 4 (.v 4) (.bin .mod (.v 3) (.v 4))) .nil)) fuel [u, v, w, some (.d (.int (x : Int))), some (.d (.int (y : Int)))] S = .ok (.nx [u, v, w, some (.d (.int (Nat.gcd x y : Nat))), some (.d (.int 0))]) S := by
  intro y
  induction y using Nat.strongRecOn with
  | _ y ih =>
    intro x fuel u v w S hf
    obtain ⟨fuel, rfl⟩ : ∃ f, fuel = f + 1 := ⟨fuel - 1, by omega⟩
    by_cases hy : y = 0
    · subst hy
      rw [whl_off (S1 := S) (by simp [tstF])]
      simp
    · have h1 : x % y < y := Nat.mod_lt _ (by omega)
      have h2 := ih (x % y) h1 y fuel u v w S (by omega)
      have e : (x : Int).fmod (y : Int) = ((x % y : Nat) : Int) := by
        rw [Int.fmod_eq_emod_of_nonneg _ (by omega)]; rfl
      have hy' : ¬ ((y : Int) = 0) := by omega
      rw [whl_on (S1 := S) (S2 := S) (σ' := [u, v, w, some (.d (.int (y : Int))), some (.d (.int ((x % y : Nat) : Int)))]) (by simp [tstF, hy]) (by simp only [bodyF, sts_cons, st_par, ev_v, ev_bin, sts_nil]; simp [hy, ← e])]
      rw [h2, Nat.gcd_comm x y, Nat.gcd_rec y x, Nat.gcd_comm]
theorem w_lreduced (F d : Nat) (hd : 1 ≤ d) {t l : Int} (h : l ≠ 0) (hl : l.natAbs < 2 ^ 8999) (hF : l.natAbs < F) (S : Sto) : CF F d 55 [.d (.int t), .d (.int l)] S = .ok (.d (eq (Rat.divInt t l))) S := by
  obtain ⟨d, rfl⟩ : ∃ e, d = e + 1 := ⟨d - 1, by omega⟩
  refine (cf_eq (f := i_law_reduced.fn) rfl rfl).trans ?_
  have hg := gcd_pos' (t := t) h
  have hle : Nat.gcd t.natAbs l.natAbs ≤ l.natAbs := Nat.le_of_dvd (by omega) (Nat.gcd_dvd_right _ _)
  have n1 := fdiv_num (t := t) h
  have n2 := fdiv_den (t := t) h
  have a1 : (if t < 0 then -t else t) = (t.natAbs : Int) := by split <;> omega
  have a2 : (if l < 0 then -l else l) = (l.natAbs : Int) := by split <;> omega
  have loop := fun w => gcd_loop (callF (tabT ds) F d) F l.natAbs t.natAbs F (some (.d (.int t))) (some (.d (.int l))) w S hF
  by_cases hp : 0 < l
  · rw [if_pos hp] at n1 n2
    have dv : divOk ((Nat.gcd t.natAbs l.natAbs : Nat) : Int) = true := div_ok (m := 8999) (by omega) (by rw [Int.natAbs_natCast]; omega) (by omega)
    simp [i_law_reduced, b_law_reduced, Pv.start, a1, a2, loop, hp, dv, eq, n1, n2]
  · rw [if_neg hp] at n1 n2
    have dv : divOk (-((Nat.gcd t.natAbs l.natAbs : Nat) : Int)) = true := div_ok (m := 8999) (by omega) (by omega) (by omega)
    have n1' : t.fdiv (-((Nat.gcd t.natAbs l.natAbs : Nat) : Int)) = (Rat.divInt t l).num := by rw [← n1]; congr 1; omega
    have n2' : l.fdiv (-((Nat.gcd t.natAbs l.natAbs : Nat) : Int)) = ((Rat.divInt t l).den : Int) := by rw [← n2]; congr 1; omega
    simp [i_law_reduced, b_law_reduced, Pv.start, a1, a2, loop, hp, dv, eq, n1', n2']
section
variable {a b : Rat} {n m : Nat}
theorem fuel_of {F : Nat} {x : Int} {n : Nat} (h : x.natAbs < 2 ^ n) (hF : 2 ^ n ≤ F) : x.natAbs < F := Nat.lt_of_lt_of_le h hF
theorem w_lplus (F d : Nat) (hd : 2 ≤ d) (hF : 2 ^ 8999 ≤ F) (ha : sz n a) (hb : sz m b) (h : n + m < 8999) (S : Sto) : CF F d 51 [.d (eq a), .d (eq b)] S = .ok (.d (eq (a + b))) S := by
  obtain ⟨d, rfl⟩ : ∃ e, d = e + 1 := ⟨d - 1, by omega⟩
  refine (cf_eq (f := i_law_plus.fn) rfl rfl).trans ?_
  have hl := nab_le (sz_dd ha hb) (show n + m ≤ 8999 by omega)
  have key := w_lreduced F d (by omega) (t := a.num * b.den + b.num * a.den) (dd_ne (a := a) (b := b)) hl (fuel_of hl hF) S
  simp [i_law_plus, b_law_plus, Pv.start, mk1 ha hb h, mk2 ha hb h, mk3 ha hb h, key, add_di a b]
theorem w_lless (F d : Nat) (hd : 2 ≤ d) (hF : 2 ^ 8999 ≤ F) (ha : sz n a) (hb : sz m b) (h : n + m < 8999) (S : Sto) : CF F d 44 [.d (eq a), .d (eq b)] S = .ok (.d (eq (a - b))) S := by
  obtain ⟨d, rfl⟩ : ∃ e, d = e + 1 := ⟨d - 1, by omega⟩
  refine (cf_eq (f := i_law_less.fn) rfl rfl).trans ?_
  have hl := nab_le (sz_dd ha hb) (show n + m ≤ 8999 by omega)
  have key := w_lreduced F d (by omega) (t := a.num * b.den - b.num * a.den) (dd_ne (a := a) (b := b)) hl (fuel_of hl hF) S
  simp [i_law_less, b_law_less, Pv.start, mk1 ha hb h, mk2 ha hb h, mk3 ha hb h, key, sub_di a b]
theorem w_ltimes (F d : Nat) (hd : 2 ≤ d) (hF : 2 ^ 8999 ≤ F) (ha : sz n a) (hb : sz m b) (h : n + m < 8999) (S : Sto) : CF F d 48 [.d (eq a), .d (eq b)] S = .ok (.d (eq (a * b))) S := by
  obtain ⟨d, rfl⟩ : ∃ e, d = e + 1 := ⟨d - 1, by omega⟩
  refine (cf_eq (f := i_law_times.fn) rfl rfl).trans ?_
  have hl := nab_le (sz_dd ha hb) (show n + m ≤ 8999 by omega)
  have key := w_lreduced F d (by omega) (t := a.num * b.num) (dd_ne (a := a) (b := b)) hl (fuel_of hl hF) S
  simp [i_law_times, b_law_times, Pv.start, mk4 ha hb h, mk3 ha hb h, key, mul_di a b]
end
end K26
set_option Elab.async false
set_option maxRecDepth 100000
set_option linter.unusedVariables false
set_option exponentiation.threshold 10000
/-! M3: surds. -/
namespace K26
open PySem Pv L2
abbrev Sd := Rat × Rat
def sd (s : Sd) : PyData := .tuple [eq s.1, eq s.2]
@[simp] theorem ix_sd0 {s : Sd} : ixD (sd s) (.int 0) = some (eq s.1) := by simp [sd]
@[simp] theorem ix_sd1 {s : Sd} : ixD (sd s) (.int 1) = some (eq s.2) := by simp [sd]
def s2 (n : Nat) (s : Sd) : Prop := sz n s.1 ∧ sz n s.2
theorem eq_int (f : Int) : PyData.tuple [.int f, .int 1] = eq (f : Rat) := by simp [eq]
theorem eq_0 : PyData.tuple [.int 0, .int 1] = eq 0 := by simp [eq]
theorem sz_int {f : Int} {n : Nat} (h : f.natAbs < 2 ^ n) (hn : 1 ≤ n) : sz n (f : Rat) := ⟨by simpa using h, by
  have : (2 : Nat) ^ 1 ≤ 2 ^ n := Nat.pow_le_pow_right (by omega) hn
  simp; omega⟩
def sadd (s t : Sd) : Sd := (s.1 + t.1, s.2 + t.2)
def ssub (s t : Sd) : Sd := (s.1 - t.1, s.2 - t.2)
def smul (f : Int) (s t : Sd) : Sd := (s.1 * t.1 + s.2 * t.2 * f, s.1 * t.2 + s.2 * t.1)
def nrm (f : Int) (s : Sd) : Rat := s.1 * s.1 - s.2 * s.2 * f
theorem s2.mono {n m : Nat} {s : Sd} (h : s2 n s) (l : n ≤ m) : s2 m s := ⟨h.1.mono l, h.2.mono l⟩
section
variable {s t : Sd} {n m : Nat} {f : Int}
theorem s2_add (hs : s2 n s) (ht : s2 m t) : s2 (n + m + 1) (sadd s t) := ⟨sz_add hs.1 ht.1, sz_add hs.2 ht.2⟩
theorem s2_sub (hs : s2 n s) (ht : s2 m t) : s2 (n + m + 1) (ssub s t) := ⟨sz_sub hs.1 ht.1, sz_sub hs.2 ht.2⟩
theorem s2_mul (hf : f.natAbs < 2 ^ 4) (hs : s2 n s) (ht : s2 m t) : s2 (2 * (n + m) + 5) (smul f s t) :=
  ⟨(sz_add (sz_mul hs.1 ht.1) (sz_mul (sz_mul hs.2 ht.2) (sz_int hf (by omega)))).mono (by omega), (sz_add (sz_mul hs.1 ht.2) (sz_mul hs.2 ht.1)).mono (by omega)⟩
theorem sz_nrm (hf : f.natAbs < 2 ^ 4) (hs : s2 n s) : sz (4 * n + 5) (nrm f s) := (sz_sub (sz_mul hs.1 hs.1) (sz_mul (sz_mul hs.2 hs.2) (sz_int hf (by omega)))).mono (by omega)
theorem w_splus (F d : Nat) (hd : 4 ≤ d) (hs : s2 n s) (ht : s2 m t) (h : n + m < 8999) (S : Sto) : CF F d 19 [.d (sd s), .d (sd t)] S = .ok (.d (sd (sadd s t))) S := by
  obtain ⟨d, rfl⟩ : ∃ e, d = e + 1 := ⟨d - 1, by omega⟩
  refine (cf_eq (f := i_surd_plus.fn) rfl rfl).trans ?_
  simp [i_surd_plus, b_surd_plus, Pv.start, w_added F d (by omega) hs.1 ht.1 h, w_added F d (by omega) hs.2 ht.2 h]
  rfl
theorem w_sless (F d : Nat) (hd : 4 ≤ d) (hs : s2 n s) (ht : s2 m t) (h : n + m < 8999) (S : Sto) : CF F d 20 [.d (sd s), .d (sd t)] S = .ok (.d (sd (ssub s t))) S := by
  obtain ⟨d, rfl⟩ : ∃ e, d = e + 1 := ⟨d - 1, by omega⟩
  refine (cf_eq (f := i_surd_less.fn) rfl rfl).trans ?_
  simp [i_surd_less, b_surd_less, Pv.start, w_difference F d (by omega) hs.1 ht.1 h, w_difference F d (by omega) hs.2 ht.2 h]
  rfl
theorem w_lsplus (F d : Nat) (hd : 3 ≤ d) (hF : 2 ^ 8999 ≤ F) (hs : s2 n s) (ht : s2 m t) (h : n + m < 8999) (S : Sto) : CF F d 52 [.d (sd s), .d (sd t)] S = .ok (.d (sd (sadd s t))) S := by
  obtain ⟨d, rfl⟩ : ∃ e, d = e + 1 := ⟨d - 1, by omega⟩
  refine (cf_eq (f := i_law_s_plus.fn) rfl rfl).trans ?_
  simp [i_law_s_plus, b_law_s_plus, Pv.start, w_lplus F d (by omega) hF hs.1 ht.1 h, w_lplus F d (by omega) hF hs.2 ht.2 h]
  rfl
theorem w_lsless (F d : Nat) (hd : 3 ≤ d) (hF : 2 ^ 8999 ≤ F) (hs : s2 n s) (ht : s2 m t) (h : n + m < 8999) (S : Sto) : CF F d 45 [.d (sd s), .d (sd t)] S = .ok (.d (sd (ssub s t))) S := by
  obtain ⟨d, rfl⟩ : ∃ e, d = e + 1 := ⟨d - 1, by omega⟩
  refine (cf_eq (f := i_law_s_less.fn) rfl rfl).trans ?_
  simp [i_law_s_less, b_law_s_less, Pv.start, w_lless F d (by omega) hF hs.1 ht.1 h, w_lless F d (by omega) hF hs.2 ht.2 h]
  rfl
theorem w_stimes (F d : Nat) (hd : 4 ≤ d) (hf : f.natAbs < 2 ^ 4) (hs : s2 n s) (ht : s2 m t) (h : 2 * (n + m) + 5 < 8999) (S : Sto) : CF F d 21 [.d (.int f), .d (sd s), .d (sd t)] S = .ok (.d (sd (smul f s t))) S := by
  obtain ⟨d, rfl⟩ : ∃ e, d = e + 1 := ⟨d - 1, by omega⟩
  refine (cf_eq (f := i_surd_times.fn) rfl rfl).trans ?_
  have p00 := w_product F d (by omega) hs.1 ht.1 (by omega)
  have p11 := w_product F d (by omega) hs.2 ht.2 (by omega)
  have p01 := w_product F d (by omega) hs.1 ht.2 (by omega)
  have p10 := w_product F d (by omega) hs.2 ht.1 (by omega)
  have pf := w_product F d (by omega) (sz_mul hs.2 ht.2) (sz_int hf (by omega)) (by omega)
  have a1 := w_added F d (by omega) (sz_mul hs.1 ht.2) (sz_mul hs.2 ht.1) (by omega)
  have a2 := w_added F d (by omega) (sz_mul hs.1 ht.1) (sz_mul (sz_mul hs.2 ht.2) (sz_int hf (by omega))) (by omega)
  by_cases h1 : s.2.num = 0
  · by_cases h2 : t.2.num = 0
    · have e : smul f s t = (s.1 * t.1, 0) := by
        rw [Rat.num_eq_zero] at h1 h2
        simp only [smul, h1, h2]
        congr 1 <;> grind
      simp [i_surd_times, b_surd_times, Pv.start, h1, h2, p00, e, sd, eq_0]
    · simp [i_surd_times, b_surd_times, Pv.start, h1, h2, p00, p11, p01, p10, eq_int, pf, a1, a2]
      rfl
  · simp [i_surd_times, b_surd_times, Pv.start, h1, p00, p11, p01, p10, eq_int, pf, a1, a2]
    rfl
theorem w_lstimes (F d : Nat) (hd : 3 ≤ d) (hF : 2 ^ 8999 ≤ F) (hf : f.natAbs < 2 ^ 4) (hs : s2 n s) (ht : s2 m t) (h : 2 * (n + m) + 5 < 8999) (S : Sto) : CF F d 49 [.d (.int f), .d (sd s), .d (sd t)] S = .ok (.d (sd (smul f s t))) S := by
  obtain ⟨d, rfl⟩ : ∃ e, d = e + 1 := ⟨d - 1, by omega⟩
  refine (cf_eq (f := i_law_s_times.fn) rfl rfl).trans ?_
  have p00 := w_ltimes F d (by omega) hF hs.1 ht.1 (by omega)
  have p11 := w_ltimes F d (by omega) hF hs.2 ht.2 (by omega)
  have p01 := w_ltimes F d (by omega) hF hs.1 ht.2 (by omega)
  have p10 := w_ltimes F d (by omega) hF hs.2 ht.1 (by omega)
  have pf := w_ltimes F d (by omega) hF (sz_int hf (by omega)) (sz_mul hs.2 ht.2) (by omega)
  have a1 := w_lplus F d (by omega) hF (sz_mul hs.1 ht.2) (sz_mul hs.2 ht.1) (by omega)
  have a2 := w_lplus F d (by omega) hF (sz_mul hs.1 ht.1) (sz_mul (sz_int hf (by omega)) (sz_mul hs.2 ht.2)) (by omega)
  have e : smul f s t = (s.1 * t.1 + f * (s.2 * t.2), s.1 * t.2 + s.2 * t.1) := by
    simp only [smul]
    congr 1; grind
  rw [e]
  simp [i_law_s_times, b_law_s_times, Pv.start, p00, p11, p01, p10, eq_int, pf, a1, a2]
  rfl
theorem w_norm (F d : Nat) (hd : 4 ≤ d) (hf : f.natAbs < 2 ^ 4) (hs : s2 n s) (h : 4 * n + 5 < 8999) (S : Sto) : CF F d 22 [.d (.int f), .d (sd s)] S = .ok (.d (eq (nrm f s))) S := by
  obtain ⟨d, rfl⟩ : ∃ e, d = e + 1 := ⟨d - 1, by omega⟩
  refine (cf_eq (f := i_norm_of.fn) rfl rfl).trans ?_
  have p00 := w_product F d (by omega) hs.1 hs.1 (by omega)
  have p11 := w_product F d (by omega) hs.2 hs.2 (by omega)
  have pf := w_product F d (by omega) (sz_mul hs.2 hs.2) (sz_int hf (by omega)) (by omega)
  have a1 := w_difference F d (by omega) (sz_mul hs.1 hs.1) (sz_mul (sz_mul hs.2 hs.2) (sz_int hf (by omega))) (by omega)
  simp [i_norm_of, b_norm_of, Pv.start, p00, p11, eq_int, pf, a1]
  rfl
def sinv (f : Int) (s : Sd) : Sd := (s.1 / nrm f s, (0 - s.2) / nrm f s)
theorem sz_0 {n : Nat} (h : 1 ≤ n) : sz n 0 := by
  have : (2 : Nat) ^ 1 ≤ 2 ^ n := Nat.pow_le_pow_right (by omega) h
  exact ⟨by simp; omega, by simp; omega⟩
theorem s2_inv (hf : f.natAbs < 2 ^ 4) (h0 : nrm f s ≠ 0) (hs : s2 n s) (hn : 1 ≤ n) : s2 (6 * n + 6) (sinv f s) :=
  ⟨(sz_div h0 hs.1 (sz_nrm hf hs)).mono (by omega), (sz_div h0 (sz_sub (sz_0 hn) hs.2) (sz_nrm hf hs)).mono (by omega)⟩
theorem w_inverse (F d : Nat) (hd : 5 ≤ d) (hf : f.natAbs < 2 ^ 4) (h0 : nrm f s ≠ 0) (hs : s2 n s) (hn : 1 ≤ n) (h : 6 * n + 6 < 8999) (S : Sto) : CF F d 23 [.d (.int f), .d (sd s)] S = .ok (.d (sd (sinv f s))) S := by
  obtain ⟨d, rfl⟩ : ∃ e, d = e + 1 := ⟨d - 1, by omega⟩
  refine (cf_eq (f := i_surd_inverse.fn) rfl rfl).trans ?_
  have e1 := w_norm F d (by omega) hf hs (by omega)
  have q0 := w_quotient F d (by omega) h0 hs.1 (sz_nrm hf hs) (by omega)
  have m1 := w_difference F d (by omega) (sz_0 hn) hs.2 (by omega)
  have q1 := w_quotient F d (by omega) h0 (sz_sub (sz_0 hn) hs.2) (sz_nrm hf hs) (by omega)
  simp [i_surd_inverse, b_surd_inverse, Pv.start, e1, q0, eq_0, m1, q1]
  rfl
theorem w_by (F d : Nat) (hd : 6 ≤ d) (hf : f.natAbs < 2 ^ 4) (h0 : nrm f t ≠ 0) (hs : s2 n s) (ht : s2 n t) (hn : 1 ≤ n) (h : 14 * n + 17 < 8999) (S : Sto) : CF F d 24 [.d (.int f), .d (sd s), .d (sd t)] S = .ok (.d (sd (smul f s (sinv f t)))) S := by
  obtain ⟨d, rfl⟩ : ∃ e, d = e + 1 := ⟨d - 1, by omega⟩
  refine (cf_eq (f := i_surd_by.fn) rfl rfl).trans ?_
  have e1 := w_inverse F d (by omega) hf h0 ht hn (by omega)
  have e2 := w_stimes F d (by omega) hf hs (s2_inv hf h0 ht hn) (by omega)
  simp [i_surd_by, b_surd_by, Pv.start, e1, e2]
end
end K26
set_option Elab.async false
set_option maxRecDepth 100000
set_option linter.unusedVariables false
set_option exponentiation.threshold 10000
/-! M4: signs. -/
namespace K26
open PySem Pv L2
theorem bI_sign (x : Int) : bI (decide (0 < x)) - bI (decide (x < 0)) = x.sign := by
  rcases Int.lt_trichotomy x 0 with h | h | h
  · rw [Int.sign_eq_neg_one_of_neg h, decide_eq_false (by omega), decide_eq_true h]; rfl
  · subst h; rfl
  · rw [Int.sign_eq_one_of_pos h, decide_eq_true h, decide_eq_false (by omega)]; rfl
theorem bI_sign2 (a b : Int) : bI (decide (b < a)) - bI (decide (a - b < 0)) = (a - b).sign := by
  rw [← bI_sign]
  congr 2
  simp only [decide_eq_decide]; omega
theorem w_sign (F d : Nat) (hd : 1 ≤ d) (q : Rat) (S : Sto) : CF F d 25 [.d (eq q)] S = .ok (.d (.int q.num.sign)) S := by
  obtain ⟨d, rfl⟩ : ∃ e, d = e + 1 := ⟨d - 1, by omega⟩
  refine (cf_eq (f := i_sign_of.fn) rfl rfl).trans ?_
  simp [i_sign_of, b_sign_of, Pv.start, bI_sign]
/-- the sign of x + y times the root of f -/
def sgI (f x y : Int) : Int := if y = 0 ∨ x = 0 then x.sign + y.sign else if (0 < x ↔ 0 < y) then x.sign else (x * x - y * y * f).sign * x.sign
def sig (f : Int) (s : Sd) : Int := sgI f (s.1.num * s.2.den) (s.2.num * s.1.den)
def ssg (f : Int) (s : Sd) : Int := if s.1.num.sign = s.2.num.sign ∨ s.2.num.sign = 0 ∨ s.1.num.sign = 0 then (if s.1.num.sign ≠ 0 then s.1.num.sign else s.2.num.sign) else s.1.num.sign * (nrm f s).num.sign
section
variable {s t : Sd} {n m : Nat} {f : Int}
theorem w_ssign (F d : Nat) (hd : 5 ≤ d) (hf : f.natAbs < 2 ^ 4) (hs : s2 n s) (h : 4 * n + 5 < 8999) (S : Sto) : CF F d 26 [.d (.int f), .d (sd s)] S = .ok (.d (.int (ssg f s))) S := by
  obtain ⟨d, rfl⟩ : ∃ e, d = e + 1 := ⟨d - 1, by omega⟩
  refine (cf_eq (f := i_surd_sign.fn) rfl rfl).trans ?_
  have e1 := fun q => w_sign F d (by omega) q
  have e2 := w_norm F d (by omega) hf hs (by omega)
  have mo : ∀ a b : Int, mulOk a.sign b.sign = true := fun a b => by
    have : ∀ x : Int, x.sign.natAbs < 2 ^ 1 := fun x => by
      rcases Int.lt_trichotomy x 0 with h | h | h
      · rw [Int.sign_eq_neg_one_of_neg h]; decide
      · subst h; decide
      · rw [Int.sign_eq_one_of_pos h]; decide
    exact mul_ok (this a) (this b) (by omega)
  unfold ssg
  by_cases h1 : s.1.num.sign = s.2.num.sign
  · by_cases h0 : s.1.num.sign = 0
    · simp [i_surd_sign, b_surd_sign, Pv.start, e1, h1.symm, h0]
    · simp [i_surd_sign, b_surd_sign, Pv.start, e1, h1.symm, h0]
  · by_cases h2 : s.2.num.sign = 0
    · have h0 : ¬ s.1.num.sign = 0 := fun z => h1 (by rw [z, h2])
      simp [i_surd_sign, b_surd_sign, Pv.start, e1, h1, h2, h0]
    · by_cases h3 : s.1.num.sign = 0
      · have h4 : ¬ (0 = s.2.num.sign) := fun z => h2 z.symm
        simp [i_surd_sign, b_surd_sign, Pv.start, e1, h2, h3, h4]
      · simp [i_surd_sign, b_surd_sign, Pv.start, e1, h1, h2, h3, e2, mo]
theorem w_lssign (F d : Nat) (hd : 1 ≤ d) (hf : f.natAbs < 2 ^ 4) (hs : s2 n s) (h : 4 * n + 5 < 8999) (S : Sto) : CF F d 46 [.d (.int f), .d (sd s)] S = .ok (.d (.int (sig f s))) S := by
  obtain ⟨d, rfl⟩ : ∃ e, d = e + 1 := ⟨d - 1, by omega⟩
  refine (cf_eq (f := i_law_s_sign.fn) rfl rfl).trans ?_
  have k1 := mk1 hs.1 hs.2 (by omega)
  have k2 := mk2 hs.1 hs.2 (by omega)
  have z1 := sz_n1 hs.1 hs.2
  have z2 := sz_n2 hs.1 hs.2
  unfold sig sgI
  have hx : ∀ x : Int, x.sign = bI (decide (0 < x)) - bI (decide (x < 0)) := fun x => (bI_sign x).symm
  have sh : CF F (d + 1) 46 [.d (.int f), .d (sd s)] S = CF F (d + 1) 46 [.d (.int f), .d (sd s)] S := rfl
  have mo : ∀ {x y : Int}, x.natAbs < 2 ^ (n + n) → y.natAbs < 2 ^ (n + n) → mulOk x y = true := fun h1 h2 => mul_ok h1 h2 (by omega)
  have mf : mulOk (s.2.num * (s.1.den : Int) * (s.2.num * (s.1.den : Int))) f = true := mul_ok (nab_mul z2 z2) hf (by omega)
  have ms : ∀ x : Int, mulOk x.sign 1 = true ∧ mulOk x.sign (-1) = true := fun x => by
    have : x.sign.natAbs < 2 ^ 1 := by
      rcases Int.lt_trichotomy x 0 with h | h | h
      · rw [Int.sign_eq_neg_one_of_neg h]; decide
      · subst h; decide
      · rw [Int.sign_eq_one_of_pos h]; decide
    exact ⟨mul_ok (m := 1) this (by decide) (by omega), mul_ok (m := 1) this (by decide) (by omega)⟩
  simp only [i_law_s_sign, b_law_s_sign, Pv.start]
  simp [k1, k2, -Int.sign_mul]
  generalize s.1.num * (s.2.den : Int) = x at *
  generalize s.2.num * (s.1.den : Int) = y at *
  by_cases hy : y = 0
  · subst hy
    simp [bI_sign]
  · by_cases h0 : x = 0
    · subst h0
      simp [hy, bI_sign]
    · by_cases px : 0 < x
      · by_cases py : 0 < y
        · simp [hy, h0, px, py, Int.sign_eq_one_of_pos px]
        · simp [hy, h0, px, py, Int.sign_eq_one_of_pos px, (ms _).1, mo z1 z1, mo z2 z2, mf, bI_sign2]
      · have nx : x < 0 := by omega
        by_cases py : 0 < y
        · simp [hy, h0, px, py, Int.sign_eq_neg_one_of_neg nx, (ms _).2, mo z1 z1, mo z2 z2, mf, bI_sign2]
        · simp [hy, h0, px, py, Int.sign_eq_neg_one_of_neg nx]
/-! ### the order that the sign tells -/
theorem sign_di {N L : Int} (h : 0 < L) : (Rat.divInt N L).num.sign = N.sign := by
  rw [di_num (by omega), Int.sign_eq_one_of_pos h, Int.one_mul]
  have hg := gcd_pos' (t := N) (l := L) (by omega)
  have hd : ((Nat.gcd N.natAbs L.natAbs : Nat) : Int) ∣ N := Int.ofNat_dvd_left.mpr (Nat.gcd_dvd_left _ _)
  generalize Nat.gcd N.natAbs L.natAbs = g at hg hd
  obtain ⟨q, rfl⟩ := hd
  rw [Int.mul_ediv_cancel_left _ (by omega), Int.sign_mul, Int.sign_eq_one_of_pos (show (0 : Int) < g by omega), Int.one_mul]
theorem nrm_num (f : Int) (s : Sd) : (nrm f s).num.sign = ((s.1.num * s.2.den) * (s.1.num * s.2.den) - (s.2.num * s.1.den) * (s.2.num * s.1.den) * f).sign := by
  have d1 := den_ne s.1
  have d2 := den_ne s.2
  have e : nrm f s = Rat.divInt ((s.1.num * s.2.den) * (s.1.num * s.2.den) - (s.2.num * s.1.den) * (s.2.num * s.1.den) * f) (((s.1.den : Int) * s.1.den) * ((s.2.den : Int) * s.2.den * 1)) := by
    unfold nrm
    have ea : s.1 = Rat.divInt s.1.num s.1.den := (Rat.num_divInt_den s.1).symm
    have eb : s.2 = Rat.divInt s.2.num s.2.den := (Rat.num_divInt_den s.2).symm
    have ef : (f : Rat) = Rat.divInt f 1 := (by have := Rat.num_divInt_den (f : Rat); rw [Rat.num_intCast, Rat.den_intCast] at this; exact this.symm)
    conv => lhs; rw [ea, eb, ef]
    rw [Rat.divInt_mul_divInt, Rat.divInt_mul_divInt, Rat.divInt_mul_divInt, Rat.divInt_sub_divInt _ _ (Int.mul_ne_zero d1 d1) (Int.mul_ne_zero (Int.mul_ne_zero d2 d2) (by omega))]
    congr 1; grind
  rw [e, sign_di]
  have p1 : (0 : Int) < s.1.den := by have := s.1.den_pos; omega
  have p2 : (0 : Int) < s.2.den := by have := s.2.den_pos; omega
  exact Int.mul_pos (Int.mul_pos p1 p1) (Int.mul_pos (Int.mul_pos p2 p2) (by omega))
theorem ssg_sig (f : Int) (s : Sd) : ssg f s = sig f s := by
  have dp : ∀ q : Rat, ((q.den : Int)).sign = 1 := fun q => Int.sign_eq_one_of_pos (by have := q.den_pos; omega)
  have e1 : (s.1.num * (s.2.den : Int)).sign = s.1.num.sign := by rw [Int.sign_mul, dp, Int.mul_one]
  have e2 : (s.2.num * (s.1.den : Int)).sign = s.2.num.sign := by rw [Int.sign_mul, dp, Int.mul_one]
  unfold ssg sig sgI
  rw [← e1, ← e2, nrm_num]
  generalize s.1.num * (s.2.den : Int) = x
  generalize s.2.num * (s.1.den : Int) = y
  simp only [Int.sign_eq_zero_iff_zero]
  by_cases hy : y = 0
  · subst hy
    by_cases hx : x = 0
    · subst hx; simp
    · simp [hx]
  · by_cases hx : x = 0
    · subst hx; simp [hy]
    · rcases Int.lt_or_gt_of_ne hx with px | px
      · rcases Int.lt_or_gt_of_ne hy with py | py
        · have : ¬ 0 < x := by omega
          have : ¬ 0 < y := by omega
          simp [*, Int.sign_eq_neg_one_of_neg px, Int.sign_eq_neg_one_of_neg py]
        · have : ¬ 0 < x := by omega
          simp [*, Int.sign_eq_neg_one_of_neg px, Int.sign_eq_one_of_pos py]
      · rcases Int.lt_or_gt_of_ne hy with py | py
        · have : ¬ 0 < y := by omega
          have h0 : 0 < x := by omega
          simp [*, Int.sign_eq_one_of_pos h0, Int.sign_eq_neg_one_of_neg py]
        · have h0 : 0 < x := by omega
          have h1 : 0 < y := by omega
          simp [*, Int.sign_eq_one_of_pos h0, Int.sign_eq_one_of_pos h1]
theorem w_isless (F d : Nat) (hd : 6 ≤ d) (hf : f.natAbs < 2 ^ 4) (hs : s2 n s) (ht : s2 m t) (h : 4 * (n + m + 1) + 5 < 8999) (S : Sto) : CF F d 27 [.d (.int f), .d (sd s), .d (sd t)] S = .ok (.d (.bool (decide (sig f (ssub s t) < 0)))) S := by
  obtain ⟨d, rfl⟩ : ∃ e, d = e + 1 := ⟨d - 1, by omega⟩
  refine (cf_eq (f := i_surd_is_less.fn) rfl rfl).trans ?_
  have e1 := w_sless F d (by omega) hs ht (by omega)
  have e2 := w_ssign F d (by omega) hf (s2_sub hs ht) (by omega)
  simp [i_surd_is_less, b_surd_is_less, Pv.start, e1, e2, ssg_sig]
theorem w_lisbelow (F d : Nat) (hd : 4 ≤ d) (hF : 2 ^ 8999 ≤ F) (hf : f.natAbs < 2 ^ 4) (hs : s2 n s) (ht : s2 m t) (h : 4 * (n + m + 1) + 5 < 8999) (S : Sto) : CF F d 40 [.d (.int f), .d (sd s), .d (sd t)] S = .ok (.d (.bool (decide (sig f (ssub s t) < 0)))) S := by
  obtain ⟨d, rfl⟩ : ∃ e, d = e + 1 := ⟨d - 1, by omega⟩
  refine (cf_eq (f := i_law_s_is_below.fn) rfl rfl).trans ?_
  have e1 := w_lsless F d (by omega) hF hs ht (by omega)
  have e2 := w_lssign F d (by omega) hf (s2_sub hs ht) (by omega)
  simp [i_law_s_is_below, b_law_s_is_below, Pv.start, e1, e2]
end
end K26
set_option Elab.async false
set_option maxRecDepth 100000
set_option linter.unusedVariables false
set_option linter.unusedSimpArgs false
/-! M5: the order of x + y times the root of f. -/
namespace K26
def nn (f x y : Int) : Prop := (0 ≤ x ∧ 0 ≤ y) ∨ (0 ≤ x ∧ y < 0 ∧ y * y * f ≤ x * x) ∨ (x < 0 ∧ 0 < y ∧ x * x ≤ y * y * f)
section
variable {f x y x' y' k p q r s : Int}
theorem sq_le (hb : 0 ≤ q) (h : p * p ≤ q * q) : p ≤ q := by
  rcases Int.lt_or_le q p with c | c
  · have h1 : q * q ≤ p * q := Int.mul_le_mul_of_nonneg_right (by omega) hb
    have h2 : p * q < p * p := Int.mul_lt_mul_of_pos_left c (by omega)
    omega
  · exact c
theorem sq_mono (hp : 0 ≤ p) (h : p ≤ q) : p * p ≤ q * q := Int.mul_le_mul h h hp (by omega)
theorem le_add (hf : 0 < f) (hp : 0 ≤ p) (hq : 0 ≤ q) (hr : 0 ≤ r) (hs : 0 ≤ s) (h1 : p * p ≤ q * q * f) (h2 : r * r ≤ s * s * f) : p * r ≤ q * s * f := by
  refine sq_le (Int.mul_nonneg (Int.mul_nonneg hq hs) (by omega)) ?_
  have h3 : (p * p) * (r * r) ≤ (q * q * f) * (s * s * f) := Int.mul_le_mul h1 h2 (Int.mul_nonneg hr hr) (Int.mul_nonneg (Int.mul_nonneg hq hq) (by omega))
  have e1 : (p * p) * (r * r) = p * r * (p * r) := by grind
  have e2 : (q * q * f) * (s * s * f) = q * s * f * (q * s * f) := by grind
  omega
theorem ge_add (hf : 0 < f) (hp : 0 ≤ p) (hq : 0 ≤ q) (hr : 0 ≤ r) (hs : 0 ≤ s) (h1 : q * q * f ≤ p * p) (h2 : s * s * f ≤ r * r) : q * s * f ≤ p * r := by
  refine sq_le (Int.mul_nonneg hp hr) ?_
  have h3 : (q * q * f) * (s * s * f) ≤ (p * p) * (r * r) := Int.mul_le_mul h1 h2 (Int.mul_nonneg (Int.mul_nonneg hs hs) (by omega)) (Int.mul_nonneg hp hp)
  have e1 : (p * p) * (r * r) = p * r * (p * r) := by grind
  have e2 : (q * q * f) * (s * s * f) = q * s * f * (q * s * f) := by grind
  omega
theorem nn_tot (hf : 0 < f) (x y : Int) : nn f x y ∨ nn f (-x) (-y) := by
  unfold nn
  have e1 : -x * -x = x * x := by grind
  have e2 : -y * -y * f = y * y * f := by grind
  rw [e1, e2]
  omega
theorem nn_0 (h : 0 ≤ x) : nn f x 0 := .inl ⟨h, by omega⟩
theorem nn_mono (hf : 0 < f) (h : nn f x y) (l : x ≤ x') : nn f x' y := by
  unfold nn at *
  rcases h with ⟨h1, h2⟩ | ⟨h1, h2, h3⟩ | ⟨h1, h2, h3⟩
  · exact .inl ⟨by omega, h2⟩
  · refine .inr (.inl ⟨by omega, h2, ?_⟩)
    have := sq_mono h1 l
    omega
  · rcases Int.lt_or_le x' 0 with c | c
    · refine .inr (.inr ⟨c, h2, ?_⟩)
      have := sq_mono (p := -x') (q := -x) (by omega) (by omega)
      have e1 : -x * -x = x * x := by grind
      have e2 : -x' * -x' = x' * x' := by grind
      omega
    · exact .inl ⟨c, by omega⟩
theorem nn_add (hf : 0 < f) (h : nn f x y) (h' : nn f x' y') : nn f (x + x') (y + y') := by
  -- A + anything by the signs
  have AB : ∀ {x y x' y' : Int}, 0 ≤ x → 0 ≤ y → 0 ≤ x' → y' < 0 → y' * y' * f ≤ x' * x' → nn f (x + x') (y + y') := fun {x y x' y'} h1 h2 h3 h4 h5 => by
    rcases Int.lt_or_le (y + y') 0 with c | c
    · refine .inr (.inl ⟨by omega, c, ?_⟩)
      have k1 := sq_mono (p := -(y + y')) (q := -y') (by omega) (by omega)
      have k2 := sq_mono h3 (show x' ≤ x + x' by omega)
      have e1 : -(y + y') * -(y + y') = (y + y') * (y + y') := by grind
      have e2 : -y' * -y' = y' * y' := by grind
      rw [e1, e2] at k1
      have k3 := Int.mul_le_mul_of_nonneg_right k1 (show 0 ≤ f by omega)
      omega
    · exact .inl ⟨by omega, c⟩
  have AC : ∀ {x y x' y' : Int}, 0 ≤ x → 0 ≤ y → x' < 0 → 0 < y' → x' * x' ≤ y' * y' * f → nn f (x + x') (y + y') := fun {x y x' y'} h1 h2 h3 h4 h5 => by
    rcases Int.lt_or_le (x + x') 0 with c | c
    · refine .inr (.inr ⟨c, by omega, ?_⟩)
      have k1 := sq_mono (p := -(x + x')) (q := -x') (by omega) (by omega)
      have k2 := sq_mono (show 0 ≤ y' by omega) (show y' ≤ y + y' by omega)
      have e1 : -(x + x') * -(x + x') = (x + x') * (x + x') := by grind
      have e2 : -x' * -x' = x' * x' := by grind
      rw [e1, e2] at k1
      have k3 := Int.mul_le_mul_of_nonneg_right k2 (show 0 ≤ f by omega)
      omega
    · exact .inl ⟨c, by omega⟩
  have BC : ∀ {x y x' y' : Int}, 0 ≤ x → y < 0 → y * y * f ≤ x * x → x' < 0 → 0 < y' → x' * x' ≤ y' * y' * f → nn f (x + x') (y + y') := fun {x y x' y'} h1 h2 h3 h4 h5 h6 => by
    rcases Int.lt_or_le (x + x') 0 with c | c
    · rcases Int.lt_or_le (y + y') 1 with c2 | c2
      · exfalso
        have k1 := sq_mono (p := x + 1) (q := -x') (by omega) (by omega)
        have k2 := sq_mono (p := y') (q := -y) (by omega) (by omega)
        have k3 := Int.mul_le_mul_of_nonneg_right k2 (show 0 ≤ f by omega)
        have e1 : (x + 1) * (x + 1) = x * x + 2 * x + 1 := by grind
        have e2 : -x' * -x' = x' * x' := by grind
        have e3 : -y * -y * f = y * y * f := by grind
        omega
      · refine .inr (.inr ⟨c, by omega, ?_⟩)
        rcases Int.lt_or_le ((y + y') * (y + y') * f) ((x + x') * (x + x')) with w | w
        · exfalso
          have g := ge_add (f := f) (p := -(x + x')) (q := y + y') (r := x) (s := -y) hf (by omega) (by omega) h1 (by omega) (by
            have e1 : -(x + x') * -(x + x') = (x + x') * (x + x') := by grind
            omega) (by
            have e3 : -y * -y * f = y * y * f := by grind
            omega)
          have e : x' * x' = (x + x') * (x + x') + 2 * (-(x + x') * x) + x * x := by grind
          have e2 : y' * y' * f = (y + y') * (y + y') * f + 2 * ((y + y') * -y * f) + y * y * f := by grind
          omega
        · exact w
    · rcases Int.lt_or_le (y + y') 0 with c2 | c2
      · refine .inr (.inl ⟨c, c2, ?_⟩)
        rcases Int.lt_or_le ((x + x') * (x + x')) ((y + y') * (y + y') * f) with w | w
        · exfalso
          have g := le_add (f := f) (p := x + x') (q := -(y + y')) (r := -x') (s := y') hf c (by omega) (by omega) (by omega) (by
            have e1 : -(y + y') * -(y + y') * f = (y + y') * (y + y') * f := by grind
            omega) (by
            have e3 : -x' * -x' = x' * x' := by grind
            omega)
          have e : x * x = (x + x') * (x + x') + 2 * ((x + x') * -x') + x' * x' := by grind
          have e2 : y * y * f = (y + y') * (y + y') * f + 2 * (-(y + y') * y' * f) + y' * y' * f := by grind
          omega
        · exact w
      · exact .inl ⟨c, c2⟩
  rcases h with ⟨h1, h2⟩ | ⟨h1, h2, h3⟩ | ⟨h1, h2, h3⟩
  · rcases h' with ⟨k1, k2⟩ | ⟨k1, k2, k3⟩ | ⟨k1, k2, k3⟩
    · exact .inl ⟨by omega, by omega⟩
    · exact AB h1 h2 k1 k2 k3
    · exact AC h1 h2 k1 k2 k3
  · rcases h' with ⟨k1, k2⟩ | ⟨k1, k2, k3⟩ | ⟨k1, k2, k3⟩
    · rw [Int.add_comm x, Int.add_comm y]; exact AB k1 k2 h1 h2 h3
    · refine .inr (.inl ⟨by omega, by omega, ?_⟩)
      have g := ge_add (f := f) (p := x) (q := -y) (r := x') (s := -y') hf h1 (by omega) k1 (by omega) (by
        have e3 : -y * -y * f = y * y * f := by grind
        omega) (by
        have e3 : -y' * -y' * f = y' * y' * f := by grind
        omega)
      have e : (x + x') * (x + x') = x * x + 2 * (x * x') + x' * x' := by grind
      have e2 : (y + y') * (y + y') * f = y * y * f + 2 * (-y * -y' * f) + y' * y' * f := by grind
      omega
    · exact BC h1 h2 h3 k1 k2 k3
  · rcases h' with ⟨k1, k2⟩ | ⟨k1, k2, k3⟩ | ⟨k1, k2, k3⟩
    · rw [Int.add_comm x, Int.add_comm y]; exact AC k1 k2 h1 h2 h3
    · rw [Int.add_comm x, Int.add_comm y]; exact BC k1 k2 k3 h1 h2 h3
    · refine .inr (.inr ⟨by omega, by omega, ?_⟩)
      have g := le_add (f := f) (p := -x) (q := y) (r := -x') (s := y') hf (by omega) (by omega) (by omega) (by omega) (by
        have e3 : -x * -x = x * x := by grind
        omega) (by
        have e3 : -x' * -x' = x' * x' := by grind
        omega)
      have e : (x + x') * (x + x') = x * x + 2 * (-x * -x') + x' * x' := by grind
      have e2 : (y + y') * (y + y') * f = y * y * f + 2 * (y * y' * f) + y' * y' * f := by grind
      omega
theorem nn_scale (hk : 0 < k) : nn f (x * k) (y * k) ↔ nn f x y := by
  have kk : 0 < k * k := Int.mul_pos hk hk
  have s1 : ∀ z : Int, 0 ≤ z * k ↔ 0 ≤ z := fun z => ⟨fun h => by
    rcases Int.lt_or_le z 0 with c | c
    · have := Int.mul_neg_of_neg_of_pos c hk; omega
    · exact c, fun h => Int.mul_nonneg h (by omega)⟩
  have s2 : ∀ z : Int, z * k < 0 ↔ z < 0 := fun z => by have := s1 z; omega
  have s3 : ∀ z : Int, 0 < z * k ↔ 0 < z := fun z => by
    have := s1 (-z)
    rw [show -z * k = -(z * k) by grind] at this
    omega
  have s4 : ∀ a b : Int, a * (k * k) ≤ b * (k * k) ↔ a ≤ b := fun a b => Int.mul_le_mul_right kk
  unfold nn
  rw [s1, s1, s2, s2, s3, show y * k * (y * k) * f = y * y * f * (k * k) by grind, show x * k * (x * k) = x * x * (k * k) by grind, s4, s4]
theorem sgI_neg (hf : 0 < f) : sgI f x y < 0 ↔ ¬ nn f x y := by
  have sg : ∀ z : Int, (z.sign = 1 ∧ 0 < z) ∨ (z.sign = -1 ∧ z < 0) ∨ (z.sign = 0 ∧ z = 0) := fun z => by
    rcases Int.lt_trichotomy z 0 with h | h | h
    · exact .inr (.inl ⟨Int.sign_eq_neg_one_of_neg h, h⟩)
    · subst h; exact .inr (.inr ⟨rfl, rfl⟩)
    · exact .inl ⟨Int.sign_eq_one_of_pos h, h⟩
  unfold sgI nn
  have hx := sg x
  have hy := sg y
  have hz := sg (x * x - y * y * f)
  have nx : 0 ≤ x * x := by rcases Int.le_total 0 x with h | h; exact Int.mul_nonneg h h; exact Int.mul_nonneg_of_nonpos_of_nonpos h h
  split
  · rename_i c
    rcases c with c | c
    · subst c
      simp only [Int.zero_mul, Int.mul_zero] at *
      simp
    · subst c
      simp only [Int.zero_mul, Int.mul_zero] at *
      simp
      have ny : y < 0 → 0 < y * y * f := fun h => Int.mul_pos (Int.mul_pos_of_neg_of_neg h h) hf
      omega
  · split
    · omega
    · rcases hx with ⟨hx, px⟩ | ⟨hx, px⟩ | ⟨hx, px⟩ <;> rw [hx] <;> omega
end
end K26
set_option Elab.async false
set_option maxRecDepth 100000
set_option linter.unusedVariables false
set_option linter.unusedSimpArgs false
set_option exponentiation.threshold 10000
/-! M6: the floor. -/
namespace K26
open PySem Pv L2
/-- the floor of y times the root of f -/
def rt0 (f y : Int) : Int := ((Float64.isqrt (y * y * f).toNat : Nat) : Int)
def Rt (f y : Int) : Int := if y < 0 then 0 - rt0 f y - (if rt0 f y * rt0 f y ≠ y * y * f then 1 else 0) else rt0 f y
section
variable {f x y X Y L : Int}
theorem yyf (hf : 0 < f) (y : Int) : 0 ≤ y * y * f := by
  have : 0 ≤ y * y := by rcases Int.le_total 0 y with h | h; exact Int.mul_nonneg h h; exact Int.mul_nonneg_of_nonpos_of_nonpos h h
  exact Int.mul_nonneg this (by omega)
theorem rt0_spec (hf : 0 < f) (y : Int) : 0 ≤ rt0 f y ∧ rt0 f y * rt0 f y ≤ y * y * f ∧ y * y * f < (rt0 f y + 1) * (rt0 f y + 1) := by
  have h := Float64.isqrt_spec (y * y * f).toNat
  have h0 := yyf hf y
  unfold rt0
  generalize Float64.isqrt (y * y * f).toNat = r at h
  obtain ⟨h1, h2⟩ := h
  refine ⟨by omega, ?_, ?_⟩
  · have : ((r * r : Nat) : Int) ≤ ((y * y * f).toNat : Int) := by exact_mod_cast h1
    rw [Int.toNat_of_nonneg h0] at this
    push_cast at this; exact this
  · have : ((y * y * f).toNat : Int) < (((r + 1) * (r + 1) : Nat) : Int) := by exact_mod_cast h2
    rw [Int.toNat_of_nonneg h0] at this
    push_cast at this; exact this
theorem Rt_up (hf : 0 < f) (h : -Rt f y ≤ x) : nn f x y := by
  obtain ⟨h0, h1, h2⟩ := rt0_spec hf y
  unfold Rt at h
  unfold nn
  rcases Int.lt_or_le y 0 with c | c
  · rw [if_pos c] at h
    by_cases e : rt0 f y * rt0 f y = y * y * f
    · rw [if_neg (by simpa using e)] at h
      have := sq_mono h0 (show rt0 f y ≤ x by omega)
      exact .inr (.inl ⟨by omega, c, by omega⟩)
    · rw [if_pos e] at h
      have := sq_mono (p := rt0 f y + 1) (by omega) (show rt0 f y + 1 ≤ x by omega)
      exact .inr (.inl ⟨by omega, c, by omega⟩)
  · rw [if_neg (by omega)] at h
    rcases Int.lt_or_le x 0 with d | d
    · have := sq_mono (p := -x) (q := rt0 f y) (by omega) (by omega)
      have e1 : -x * -x = x * x := by grind
      refine .inr (.inr ⟨d, ?_, by omega⟩)
      rcases Int.lt_or_le 0 y with k | k
      · exact k
      · exfalso
        have : y = 0 := by omega
        subst this
        have : rt0 f 0 * rt0 f 0 ≤ 0 := by simpa using h1
        have : rt0 f 0 ≤ 0 := sq_le (q := 0) (by omega) (by simpa using this)
        omega
    · exact .inl ⟨d, c⟩
theorem Rt_dn (hf : 0 < f) (h : x < -Rt f y) : ¬ nn f x y := by
  obtain ⟨h0, h1, h2⟩ := rt0_spec hf y
  unfold Rt at h
  unfold nn
  rcases Int.lt_or_le y 0 with c | c
  · rw [if_pos c] at h
    by_cases e : rt0 f y * rt0 f y = y * y * f
    · rw [if_neg (by simpa using e)] at h
      rintro (⟨k1, k2⟩ | ⟨k1, k2, k3⟩ | ⟨k1, k2, k3⟩)
      · omega
      · have := sq_mono k1 (show x ≤ rt0 f y - 1 by omega)
        have e2 : (rt0 f y - 1) * (rt0 f y - 1) = rt0 f y * rt0 f y - 2 * rt0 f y + 1 := by grind
        omega
      · omega
    · rw [if_pos e] at h
      rintro (⟨k1, k2⟩ | ⟨k1, k2, k3⟩ | ⟨k1, k2, k3⟩)
      · omega
      · have := sq_mono k1 (show x ≤ rt0 f y by omega)
        omega
      · omega
  · rw [if_neg (by omega)] at h
    rintro (⟨k1, k2⟩ | ⟨k1, k2, k3⟩ | ⟨k1, k2, k3⟩)
    · omega
    · omega
    · have := sq_mono (p := rt0 f y + 1) (q := -x) (by omega) (by omega)
      have e1 : -x * -x = x * x := by grind
      omega
/-- a surd over a common measure -/
structure Over (s : Sd) (L X Y : Int) : Prop where
  pos : 0 < L
  e1 : s.1.num * L = X * s.1.den
  e2 : s.2.num * L = Y * s.2.den
theorem sig_nn {s : Sd} (hf : 0 < f) (o : Over s L X Y) : sig f s < 0 ↔ ¬ nn f X Y := by
  unfold sig
  rw [sgI_neg hf]
  have p1 : (0 : Int) < s.1.den := by have := s.1.den_pos; omega
  have p2 : (0 : Int) < s.2.den := by have := s.2.den_pos; omega
  have m : (0 : Int) < s.1.den * s.2.den := Int.mul_pos p1 p2
  have a := nn_scale (f := f) (x := s.1.num * s.2.den) (y := s.2.num * s.1.den) o.pos
  have b := nn_scale (f := f) (x := X) (y := Y) m
  have e1 := o.e1
  have e2 := o.e2
  have k1 : s.1.num * s.2.den * L = X * (s.1.den * s.2.den) := by grind
  have k2 : s.2.num * s.1.den * L = Y * (s.1.den * s.2.den) := by grind
  rw [k1, k2] at a
  rw [← a, ← b]
def lowOf (s : Sd) : Int := (((s.1.den : Int) * s.2.den)).fdiv (Nat.gcd s.1.den s.2.den : Nat)
def topOf (s : Sd) : Int := s.1.num * (lowOf s).fdiv s.1.den
def byOf (s : Sd) : Int := s.2.num * (lowOf s).fdiv s.2.den
def flr (f : Int) (s : Sd) : Int := (topOf s + Rt f (byOf s)).fdiv (lowOf s)
theorem low_facts (s : Sd) : 0 < lowOf s ∧ (lowOf s).fdiv s.1.den * s.1.den = lowOf s ∧ (lowOf s).fdiv s.2.den * s.2.den = lowOf s ∧ lowOf s ≤ s.1.den * s.2.den := by
  have p1 : 0 < s.1.den := s.1.den_pos
  have p2 : 0 < s.2.den := s.2.den_pos
  unfold lowOf
  generalize s.1.den = a at *
  generalize s.2.den = b at *
  obtain ⟨g, u, v, hg, e1, e2, e3⟩ : ∃ g u v, 0 < g ∧ a = g * u ∧ b = g * v ∧ Nat.gcd a b = g := ⟨Nat.gcd a b, a / Nat.gcd a b, b / Nat.gcd a b, Nat.gcd_pos_of_pos_left _ p1, (Nat.mul_div_cancel' (Nat.gcd_dvd_left _ _)).symm, (Nat.mul_div_cancel' (Nat.gcd_dvd_right _ _)).symm, rfl⟩
  rw [e3]
  subst e1 e2
  have hu : 0 < u := Nat.pos_of_mul_pos_left p1
  have hv : 0 < v := Nat.pos_of_mul_pos_left p2
  have eL : (((g * u : Nat) : Int) * ((g * v : Nat) : Int)).fdiv (g : Int) = g * u * v := by
    push_cast
    rw [show (g : Int) * u * (g * v) = g * (g * u * v) by grind, Int.mul_fdiv_cancel_left _ (by omega)]
  rw [eL]
  have q1 : ((g : Int) * u * v).fdiv ((g * u : Nat) : Int) = v := by
    push_cast
    rw [Int.mul_fdiv_cancel_left]
    have := Int.mul_pos (show (0 : Int) < g by omega) (show (0 : Int) < u by omega)
    omega
  have q2 : ((g : Int) * u * v).fdiv ((g * v : Nat) : Int) = u := by
    push_cast
    rw [show (g : Int) * u * v = g * v * u by grind, Int.mul_fdiv_cancel_left]
    have := Int.mul_pos (show (0 : Int) < g by omega) (show (0 : Int) < v by omega)
    omega
  rw [q1, q2]
  have hg' : (1 : Int) ≤ g := by omega
  have pu : (0 : Int) < u := by omega
  have pv : (0 : Int) < v := by omega
  refine ⟨Int.mul_pos (Int.mul_pos (by omega) pu) pv, by push_cast; grind, by push_cast; grind, ?_⟩
  push_cast
  have k : 0 ≤ (g : Int) * u * v := Int.le_of_lt (Int.mul_pos (Int.mul_pos (by omega) pu) pv)
  have := Int.mul_le_mul_of_nonneg_right hg' k
  have e : (g : Int) * u * (g * v) = g * (g * u * v) := by grind
  omega
theorem over_own (s : Sd) : Over s (lowOf s) (topOf s) (byOf s) := by
  obtain ⟨h1, h2, h3, _⟩ := low_facts s
  refine ⟨h1, ?_, ?_⟩
  · unfold topOf
    rw [Int.mul_assoc, h2]
  · unfold byOf
    rw [Int.mul_assoc, h3]
/-- the floor by its bounds, over any measure -/
theorem flr_spec (hf : 0 < f) (s : Sd) : nn f (topOf s - flr f s * lowOf s) (byOf s) ∧ ¬ nn f (topOf s - (flr f s + 1) * lowOf s) (byOf s) := by
  obtain ⟨h1, _⟩ := low_facts s
  have e : (topOf s + Rt f (byOf s)) = lowOf s * flr f s + (topOf s + Rt f (byOf s)).fmod (lowOf s) := (Int.mul_fdiv_add_fmod _ _).symm
  have e1 : 0 ≤ (topOf s + Rt f (byOf s)).fmod (lowOf s) := Int.fmod_nonneg_of_pos _ h1
  have e2 : (topOf s + Rt f (byOf s)).fmod (lowOf s) < lowOf s := Int.fmod_lt_of_pos _ h1
  generalize (topOf s + Rt f (byOf s)).fmod (lowOf s) = r at e e1 e2
  have c : flr f s * lowOf s = lowOf s * flr f s := Int.mul_comm _ _
  have c2 : (flr f s + 1) * lowOf s = lowOf s * flr f s + lowOf s := by grind
  exact ⟨Rt_up hf (by omega), Rt_dn hf (by omega)⟩
end
section
variable {s t : Sd} {n m : Nat} {f : Int}
theorem flr_sz (hs : s2 n s) : (lowOf s).natAbs < 2 ^ (n + n) ∧ (topOf s).natAbs < 2 ^ (3 * n) ∧ (byOf s).natAbs < 2 ^ (3 * n) := by
  obtain ⟨h1, h2, h3, h4⟩ := low_facts s
  have l : (lowOf s).natAbs < 2 ^ (n + n) := by
    have := nab_mul (nab_cast hs.1.2) (nab_cast hs.2.2)
    omega
  have dv : ∀ d : Nat, 0 < d → ((lowOf s).fdiv d).natAbs < 2 ^ (n + n) := fun d hd => by
    rw [Int.fdiv_eq_ediv_of_nonneg _ (by omega)]
    exact Nat.lt_of_le_of_lt (Int.natAbs_ediv_le_natAbs _ _) l
  refine ⟨l, ?_, ?_⟩
  · exact nab_le (nab_mul hs.1.1 (dv _ s.1.den_pos)) (by omega)
  · exact nab_le (nab_mul hs.2.1 (dv _ s.2.den_pos)) (by omega)
theorem w_root (F d : Nat) (hd : 1 ≤ d) {x : Int} (h0 : 0 ≤ x) (hx : x.natAbs < 2 ^ 12000) (S : Sto) : CF F d 10 [.d (.int x)] S = .ok (.d (.int ((Float64.isqrt x.toNat : Nat) : Int))) S := by
  obtain ⟨d, rfl⟩ : ∃ e, d = e + 1 := ⟨d - 1, by omega⟩
  refine (cf_eq (f := i_floor_root.fn) rfl rfl).trans ?_
  have := log_of hx
  simp [i_floor_root, b_floor_root, Pv.start, h0, show x.natAbs.log2 < 13000 by omega]
theorem w_floor (F d : Nat) (hd : 2 ≤ d) (hf0 : 0 < f) (hf : f.natAbs < 2 ^ 4) (hs : s2 n s) (h : 6 * n + 4 < 8999) (S : Sto) : CF F d 28 [.d (.int f), .d (sd s)] S = .ok (.d (.int (flr f s))) S := by
  obtain ⟨d, rfl⟩ : ∃ e, d = e + 1 := ⟨d - 1, by omega⟩
  refine (cf_eq (f := i_surd_floor.fn) rfl rfl).trans ?_
  obtain ⟨l1, l2, l3⟩ := flr_sz hs
  obtain ⟨q1, q2, q3, q4⟩ := low_facts s
  have p1 : 0 < s.1.den := s.1.den_pos
  have p2 : 0 < s.2.den := s.2.den_pos
  have cg := w_common F d (by omega) (s.1.den : Int) (s.2.den : Int)
  have hgp : 0 < Nat.gcd s.1.den s.2.den := Nat.gcd_pos_of_pos_left _ p1
  have hgl : Nat.gcd s.1.den s.2.den ≤ s.1.den := Nat.le_of_dvd p1 (Nat.gcd_dvd_left _ _)
  have d1 : divOk ((Nat.gcd s.1.den s.2.den : Nat) : Int) = true := div_ok (m := n) (by omega) (by rw [Int.natAbs_natCast]; have := hs.1.2; omega) (by omega)
  have d2 : divOk (s.1.den : Int) = true := div_ok (m := n) (by omega) (nab_cast hs.1.2) (by omega)
  have d3 : divOk (s.2.den : Int) = true := div_ok (m := n) (by omega) (nab_cast hs.2.2) (by omega)
  have d4 : divOk (lowOf s) = true := div_ok (m := n + n) (by omega) l1 (by omega)
  have m1 : mulOk (s.1.den : Int) s.2.den = true := mul_ok (nab_cast hs.1.2) (nab_cast hs.2.2) (by omega)
  have dv : ∀ d : Nat, 0 < d → ((lowOf s).fdiv d).natAbs < 2 ^ (n + n) := fun d hd => by
    rw [Int.fdiv_eq_ediv_of_nonneg _ (by omega)]
    exact Nat.lt_of_le_of_lt (Int.natAbs_ediv_le_natAbs _ _) l1
  have m2 : mulOk s.1.num ((lowOf s).fdiv s.1.den) = true := mul_ok hs.1.1 (dv _ p1) (by omega)
  have m3 : mulOk s.2.num ((lowOf s).fdiv s.2.den) = true := mul_ok hs.2.1 (dv _ p2) (by omega)
  have m4 : mulOk (byOf s) (byOf s) = true := mul_ok l3 l3 (by omega)
  have m5 : mulOk (byOf s * byOf s) f = true := mul_ok (nab_mul l3 l3) hf (by omega)
  have y0 := yyf hf0 (byOf s)
  have yz : (byOf s * byOf s * f).natAbs < 2 ^ (3 * n + 3 * n + 4) := nab_mul (nab_mul l3 l3) hf
  have r1 := w_root F d (by omega) y0 (nab_le yz (by omega))
  have rz : (rt0 f (byOf s)).natAbs < 2 ^ (3 * n + 3 * n + 4) := by
    obtain ⟨z1, z2, z3⟩ := rt0_spec hf0 (byOf s)
    have : rt0 f (byOf s) ≤ byOf s * byOf s * f := by
      rcases Int.lt_or_le (rt0 f (byOf s)) 1 with c | c
      · omega
      · have := Int.mul_le_mul_of_nonneg_right c z1
        omega
    omega
  have m6 : mulOk (rt0 f (byOf s)) (rt0 f (byOf s)) = true := mul_ok rz rz (by omega)
  simp only [i_surd_floor, b_surd_floor, Pv.start]
  simp [cg, d1, d2, d3, m1]
  rw [show ((s.1.den : Int) * s.2.den).fdiv ((Nat.gcd s.1.den s.2.den : Nat) : Int) = lowOf s from rfl]
  simp [m2, m3]
  rw [show s.1.num * (lowOf s).fdiv s.1.den = topOf s from rfl, show s.2.num * (lowOf s).fdiv s.2.den = byOf s from rfl]
  simp [m4, m5, r1]
  rw [show ((Float64.isqrt (byOf s * byOf s * f).toNat : Nat) : Int) = rt0 f (byOf s) from rfl]
  unfold flr Rt
  by_cases c : byOf s < 0
  · by_cases e : rt0 f (byOf s) * rt0 f (byOf s) = byOf s * byOf s * f
    · simp [c, m4, m5, m6, e, d4]
    · simp [c, m4, m5, m6, e, d4]
  · simp [c, d4]
end
end K26
set_option Elab.async false
set_option maxRecDepth 100000
set_option linter.unusedVariables false
set_option linter.unusedSimpArgs false
set_option exponentiation.threshold 10000
/-! M7: common measures; where a doubling search ends. -/
namespace K26
open PySem Pv L2
theorem mul_den (q : Rat) : q * ((q.den : Int) : Rat) = (q.num : Rat) := by
  have h := den_ne q
  have e1 : ((q.den : Int) : Rat) = Rat.divInt q.den 1 := by have := Rat.num_divInt_den ((q.den : Int) : Rat); rw [Rat.num_intCast, Rat.den_intCast] at this; exact this.symm
  have e2 : (q.num : Rat) = Rat.divInt q.num 1 := by have := Rat.num_divInt_den ((q.num : Int) : Rat); rw [Rat.num_intCast, Rat.den_intCast] at this; exact this.symm
  conv => lhs; lhs; rw [← Rat.num_divInt_den q]
  rw [e1, e2, Rat.divInt_mul_divInt, Int.mul_comm _ 1, Rat.divInt_mul_right h]
theorem den_q (q : Rat) : ((q.den : Int) : Rat) ≠ 0 := fun z => den_ne q (Rat.intCast_inj.mp (by rw [z]; rfl))
theorem q_div (t l : Int) (h : l ≠ 0) : Rat.divInt t l * (l : Rat) = (t : Rat) := by
  have e1 : (l : Rat) = Rat.divInt l 1 := by have := Rat.num_divInt_den (l : Rat); rw [Rat.num_intCast, Rat.den_intCast] at this; exact this.symm
  have e2 : (t : Rat) = Rat.divInt t 1 := by have := Rat.num_divInt_den (t : Rat); rw [Rat.num_intCast, Rat.den_intCast] at this; exact this.symm
  rw [e1, e2, Rat.divInt_mul_divInt, Int.mul_comm _ 1, Rat.divInt_mul_right h]
/-- over a measure, as rationals -/
structure OverQ (s : Sd) (L X Y : Int) : Prop where
  pos : 0 < L
  e1 : s.1 * (L : Rat) = (X : Rat)
  e2 : s.2 * (L : Rat) = (Y : Rat)
theorem num_of {q : Rat} {L X : Int} (h : q * (L : Rat) = (X : Rat)) : q.num * L = X * q.den := by
  have e := mul_den q
  have : ((q.num * L : Int) : Rat) = ((X * q.den : Int) : Rat) := by
    rw [Rat.intCast_mul, Rat.intCast_mul, ← e, ← h]; grind
  exact Rat.intCast_inj.mp this
theorem of_num {q : Rat} {L X : Int} (h : q.num * L = X * q.den) : q * (L : Rat) = (X : Rat) := by
  have e := mul_den q
  have d := den_q q
  have : ((q.num * L : Int) : Rat) = ((X * q.den : Int) : Rat) := by rw [h]
  rw [Rat.intCast_mul, Rat.intCast_mul, ← e] at this
  grind
theorem OverQ.over {s : Sd} {L X Y : Int} (o : OverQ s L X Y) : Over s L X Y := ⟨o.pos, num_of o.e1, num_of o.e2⟩
theorem Over.q {s : Sd} {L X Y : Int} (o : Over s L X Y) : OverQ s L X Y := ⟨o.pos, of_num o.e1, of_num o.e2⟩
section
variable {s t : Sd} {L X Y X' Y' f k : Int}
theorem OverQ.sub (o : OverQ s L X Y) (o' : OverQ t L X' Y') : OverQ (ssub s t) L (X - X') (Y - Y') := by
  refine ⟨o.pos, ?_, ?_⟩
  · have e1 := o.e1
    have e2 := o'.e1
    rw [Rat.intCast_sub]
    show (s.1 - t.1) * (L : Rat) = _
    grind
  · have e1 := o.e2
    have e2 := o'.e2
    rw [Rat.intCast_sub]
    show (s.2 - t.2) * (L : Rat) = _
    grind
theorem OverQ.mul (o : OverQ s L X Y) (hk : 0 < k) : OverQ s (L * k) (X * k) (Y * k) := by
  refine ⟨Int.mul_pos o.pos hk, ?_, ?_⟩
  · have e1 := o.e1
    rw [Rat.intCast_mul, Rat.intCast_mul]; grind
  · have e1 := o.e2
    rw [Rat.intCast_mul, Rat.intCast_mul]; grind
theorem over_int (n : Int) (hL : 0 < L) : OverQ ((n : Rat), 0) L (n * L) 0 := by
  refine ⟨hL, ?_, ?_⟩
  · rw [Rat.intCast_mul]
  · show (0 : Rat) * (L : Rat) = ((0 : Int) : Rat)
    rw [Rat.zero_mul]; rfl
theorem over_frac (n : Int) {m : Int} (hm : 0 < m) (hL : 0 < L) : OverQ (Rat.divInt n m, 0) (L * m) (n * L) 0 := by
  refine ⟨Int.mul_pos hL hm, ?_, ?_⟩
  · have e := q_div n m (by omega)
    rw [Rat.intCast_mul, Rat.intCast_mul]
    show Rat.divInt n m * _ = _
    grind
  · show (0 : Rat) * ((L * m : Int) : Rat) = ((0 : Int) : Rat)
    rw [Rat.zero_mul]; rfl
/-- every two surds have a measure -/
theorem measure (s t : Sd) : ∃ L X Y X' Y', OverQ s L X Y ∧ OverQ t L X' Y' ∧ L = s.1.den * s.2.den * (t.1.den * t.2.den) ∧ X = s.1.num * (s.2.den * (t.1.den * t.2.den)) ∧ X' = t.1.num * (t.2.den * (s.1.den * s.2.den)) := by
  have a1 : (0 : Int) < s.1.den := by have := s.1.den_pos; omega
  have a2 : (0 : Int) < s.2.den := by have := s.2.den_pos; omega
  have a3 : (0 : Int) < t.1.den := by have := t.1.den_pos; omega
  have a4 : (0 : Int) < t.2.den := by have := t.2.den_pos; omega
  have p := Int.mul_pos (Int.mul_pos a1 a2) (Int.mul_pos a3 a4)
  refine ⟨_, _, s.2.num * (s.1.den * (t.1.den * t.2.den)), _, t.2.num * (t.1.den * (s.1.den * s.2.den)), ⟨p, of_num ?_, of_num ?_⟩, ⟨p, of_num ?_, of_num ?_⟩, rfl, rfl, rfl⟩ <;> grind
theorem below_iff (hf : 0 < f) (o : OverQ s L X Y) (o' : OverQ t L X' Y') : sig f (ssub s t) < 0 ↔ ¬ nn f (X - X') (Y - Y') := sig_nn hf (o.sub o').over
/-- the floor's bounds over any measure -/
theorem flr_over (hf : 0 < f) (o : OverQ s L X Y) : nn f (X - flr f s * L) Y ∧ ¬ nn f (X - (flr f s + 1) * L) Y := by
  have ow := (over_own s).q
  have h := flr_spec hf s
  have key : ∀ n : Int, nn f (topOf s - n * lowOf s) (byOf s) ↔ nn f (X - n * L) Y := fun n => by
    have a := below_iff hf ow (over_int n ow.pos)
    have b := below_iff hf o (over_int n o.pos)
    rw [Int.sub_zero] at a b
    have : ¬ nn f (topOf s - n * lowOf s) (byOf s) ↔ ¬ nn f (X - n * L) Y := a.symm.trans b
    exact ⟨fun z => Classical.byContradiction fun w => this.mpr w z, fun z => Classical.byContradiction fun w => this.mp w z⟩
  exact ⟨(key _).mp h.1, fun z => h.2 ((key _).mpr z)⟩
/-- past every measure -/
theorem archi {P Q T : Int} (hf : 0 < f) (hL : 0 < L) (h : ¬ nn f (-P) (-Q)) (hT : 2 * L * (P.natAbs + 1) + L + 1 ≤ T) : ¬ nn f (L - P * T) (-Q * T) := by
  have hT0 : 0 < T := by
    have : 0 ≤ 2 * L * ((P.natAbs : Int) + 1) := Int.mul_nonneg (by omega) (by omega)
    omega
  have hTL : L < T := by
    have : 0 ≤ 2 * L * ((P.natAbs : Int) + 1) := Int.mul_nonneg (by omega) (by omega)
    omega
  intro w
  have m1 : -P * -P = P * P := by grind
  have m2 : -Q * -Q * f = Q * Q * f := by grind
  unfold nn at h
  rw [m1, m2] at h
  have sP : 0 ≤ P → P * T ≥ P * L + P := fun hp => by
    have := Int.mul_le_mul_of_nonneg_left (show L + 1 ≤ T by omega) hp
    grind
  rcases Int.lt_or_le 0 P with hP | hP
  · rcases Int.lt_or_le Q 0 with hQ | hQ
    · -- P > 0 > Q
      have hs : Q * Q * f < P * P := by
        rcases Int.lt_or_le (Q * Q * f) (P * P) with c | c
        · exact c
        · exfalso; apply h; right; right; exact ⟨by omega, by omega, c⟩
      have x0 : L - P * T < 0 := by
        have := Int.mul_le_mul_of_nonneg_right (show 1 ≤ P by omega) (show 0 ≤ T by omega)
        omega
      rcases w with ⟨k1, k2⟩ | ⟨k1, k2, k3⟩ | ⟨k1, k2, k3⟩
      · omega
      · omega
      · have e1 : (L - P * T) * (L - P * T) = L * L - 2 * L * P * T + P * P * (T * T) := by grind
        have e2 : -Q * T * (-Q * T) * f = Q * Q * f * (T * T) := by grind
        have g1 : (Q * Q * f + 1) * (T * T) ≤ P * P * (T * T) := Int.mul_le_mul_of_nonneg_right (by omega) (Int.mul_nonneg (by omega) (by omega))
        have e3 : (Q * Q * f + 1) * (T * T) = Q * Q * f * (T * T) + T * T := by grind
        have hP' : (P.natAbs : Int) = P := by omega
        rw [hP'] at hT
        have g2 : (2 * L * P + 1) * T ≤ T * T := Int.mul_le_mul_of_nonneg_right (by grind) (by omega)
        have e4 : (2 * L * P + 1) * T = 2 * L * P * T + T := by grind
        have g3 : 0 ≤ L * L := Int.mul_nonneg (by omega) (by omega)
        omega
    · have x0 : L - P * T < 0 := by
        have := Int.mul_le_mul_of_nonneg_right (show 1 ≤ P by omega) (show 0 ≤ T by omega)
        omega
      have y0 : -Q * T ≤ 0 := by
        have := Int.mul_nonneg hQ (show 0 ≤ T by omega)
        grind
      rcases w with ⟨k1, k2⟩ | ⟨k1, k2, k3⟩ | ⟨k1, k2, k3⟩ <;> omega
  · -- P ≤ 0: Q > 0
    have hQ : 0 < Q := by
      rcases Int.lt_or_le 0 Q with c | c
      · exact c
      · exfalso; apply h; left; omega
    have hs : P * P < Q * Q * f := by
      rcases Int.lt_or_le (P * P) (Q * Q * f) with c | c
      · exact c
      · exfalso; apply h; right; left; exact ⟨by omega, by omega, c⟩
    have x0 : 0 ≤ L - P * T := by
      have := Int.mul_nonneg (show 0 ≤ -P by omega) (show 0 ≤ T by omega)
      have e : -P * T = -(P * T) := by grind
      omega
    have y0 : -Q * T < 0 := by
      have := Int.mul_pos hQ hT0
      grind
    rcases w with ⟨k1, k2⟩ | ⟨k1, k2, k3⟩ | ⟨k1, k2, k3⟩
    · omega
    · have e1 : (L - P * T) * (L - P * T) = L * L + 2 * L * -P * T + P * P * (T * T) := by grind
      have e2 : -Q * T * (-Q * T) * f = Q * Q * f * (T * T) := by grind
      have g1 : (P * P + 1) * (T * T) ≤ Q * Q * f * (T * T) := Int.mul_le_mul_of_nonneg_right (by omega) (Int.mul_nonneg (by omega) (by omega))
      have e3 : (P * P + 1) * (T * T) = P * P * (T * T) + T * T := by grind
      have hP' : (P.natAbs : Int) = -P := by omega
      rw [hP'] at hT
      have g2 : (2 * L * -P + (L + 1)) * T ≤ T * T := Int.mul_le_mul_of_nonneg_right (by grind) (by omega)
      have e4 : (2 * L * -P + (L + 1)) * T = 2 * L * -P * T + (L + 1) * T := by grind
      have g3 : (L + 1) * L ≤ (L + 1) * T := Int.mul_le_mul_of_nonneg_left (by omega) (by omega)
      have e5 : (L + 1) * L = L * L + L := by grind
      omega
    · omega
end
end K26
set_option Elab.async false
set_option maxRecDepth 100000
set_option linter.unusedVariables false
set_option linter.unusedSimpArgs false
set_option exponentiation.threshold 10000
/-! M8: the fraction between. -/
namespace K26
open PySem Pv L2
def T2 (k : Nat) : Int := (2 : Int) ^ k
theorem T2_pos (k : Nat) : 0 < T2 k := Int.pow_pos (by omega)
theorem T2_succ (k : Nat) : T2 (k + 1) = 2 * T2 k := by unfold T2; rw [Int.pow_succ]; omega
theorem T2_abs (k : Nat) : (T2 k).natAbs = 2 ^ k := by unfold T2; rw [Int.natAbs_pow]; rfl
theorem T2_sz (k : Nat) : (T2 k).natAbs < 2 ^ (k + 1) := by rw [T2_abs, Nat.pow_succ]; have := Nat.two_pow_pos k; omega
def scl (f : Int) (s : Sd) (k : Nat) : Sd := smul f s ((T2 k : Rat), 0)
theorem scl_eq (f : Int) (s : Sd) (k : Nat) : scl f s k = (s.1 * (T2 k : Rat), s.2 * (T2 k : Rat)) := by
  unfold scl smul
  congr 1 <;> grind
def Nk (f : Int) (s : Sd) (k : Nat) : Int := flr f (scl f s k) + 1
def lss (f : Int) (s t : Sd) (k : Nat) : Prop := sig f (ssub (Rat.divInt (Nk f s k) (T2 k), 0) t) < 0
instance (f : Int) (s t : Sd) (k : Nat) : Decidable (lss f s t k) := by unfold lss; infer_instance
section
variable {s t : Sd} {L p q p' q' f : Int} {k : Nat}
theorem over_scl (o : OverQ s L p q) (k : Nat) : OverQ (scl f s k) L (p * T2 k) (q * T2 k) := by
  rw [scl_eq]
  refine ⟨o.pos, ?_, ?_⟩
  · have e := o.e1
    rw [Rat.intCast_mul]
    show s.1 * _ * _ = _
    grind
  · have e := o.e2
    rw [Rat.intCast_mul]
    show s.2 * _ * _ = _
    grind
theorem Nk_spec (hf : 0 < f) (o : OverQ s L p q) (k : Nat) : nn f (p * T2 k - (Nk f s k - 1) * L) (q * T2 k) ∧ ¬ nn f (p * T2 k - Nk f s k * L) (q * T2 k) := by
  have h := flr_over hf (over_scl (f := f) o k)
  unfold Nk
  rw [show flr f (scl f s k) + 1 - 1 = flr f (scl f s k) by omega]
  exact h
theorem lss_iff (hf : 0 < f) (o' : OverQ t L p' q') (k : Nat) : lss f s t k ↔ ¬ nn f (Nk f s k * L - p' * T2 k) (0 - q' * T2 k) :=
  below_iff hf (over_frac (Nk f s k) (T2_pos k) o'.pos) (o'.mul (T2_pos k))
theorem lss_end (hf : 0 < f) (o : OverQ s L p q) (o' : OverQ t L p' q') (h : sig f (ssub s t) < 0) (hk : 2 * L * ((p' - p).natAbs + 1) + L + 1 ≤ T2 k) : lss f s t k := by
  rw [lss_iff hf o']
  have h' := (below_iff hf o o').mp h
  have a := archi (P := p' - p) (Q := q' - q) hf o.pos (by rw [show -(p' - p) = p - p' by omega, show -(q' - q) = q - q' by omega]; exact h') hk
  intro w
  apply a
  have := nn_add hf (Nk_spec hf o k).1 w
  have e1 : p * T2 k - (Nk f s k - 1) * L + (Nk f s k * L - p' * T2 k) = L - (p' - p) * T2 k := by grind
  have e2 : q * T2 k + (0 - q' * T2 k) = -(q' - q) * T2 k := by grind
  rw [e1, e2] at this
  exact this
theorem least {P : Nat → Prop} : ∀ (n : Nat), P n → ∃ k, k ≤ n ∧ P k ∧ ∀ j, j < k → ¬ P j := by
  intro n
  induction n using Nat.strongRecOn with
  | _ n ih =>
    intro h
    by_cases c : ∃ j, j < n ∧ P j
    · obtain ⟨j, hj, hp⟩ := c
      obtain ⟨k, k1, k2, k3⟩ := ih j hj hp
      exact ⟨k, by omega, k2, k3⟩
    · exact ⟨n, Nat.le_refl _, h, fun j hj hp => c ⟨j, hj, hp⟩⟩
/-- one doubling more -/
theorem Nk_two (hf : 0 < f) (o : OverQ s L p q) (k : Nat) : Nk f s (k + 1) = 2 * Nk f s k ∨ Nk f s (k + 1) = 2 * Nk f s k - 1 := by
  obtain ⟨a1, a2⟩ := Nk_spec hf o k
  obtain ⟨b1, b2⟩ := Nk_spec hf o (k + 1)
  rw [T2_succ] at b1 b2
  have s1 := (nn_scale (f := f) (x := p * T2 k - (Nk f s k - 1) * L) (y := q * T2 k) (k := 2) (by omega)).mpr a1
  have s2 : ¬ nn f ((p * T2 k - Nk f s k * L) * 2) (q * T2 k * 2) := fun z => a2 ((nn_scale (by omega)).mp z)
  rw [show q * (2 * T2 k) = q * T2 k * 2 by grind] at b1 b2
  have hL := o.pos
  have c1 : ¬ (Nk f s (k + 1) ≤ 2 * (Nk f s k - 1)) := fun z => by
    apply b2
    refine nn_mono hf s1 ?_
    have := Int.mul_le_mul_of_nonneg_right z (show 0 ≤ L by omega)
    grind
  have c2 : ¬ (2 * Nk f s k ≤ Nk f s (k + 1) - 1) := fun z => by
    apply s2
    refine nn_mono hf b1 ?_
    have := Int.mul_le_mul_of_nonneg_right z (show 0 ≤ L by omega)
    grind
  omega
theorem flr_bd (hf0 : 0 < f) (hf : f.natAbs < 2 ^ 4) {m : Nat} (hs : s2 m s) (hm : 1 ≤ m) : (flr f s).natAbs < 2 ^ (m + 5) := by
  obtain ⟨q1, q2, q3, q4⟩ := low_facts s
  have e : (topOf s + Rt f (byOf s)) = lowOf s * flr f s + (topOf s + Rt f (byOf s)).fmod (lowOf s) := (Int.mul_fdiv_add_fmod _ _).symm
  have e1 : 0 ≤ (topOf s + Rt f (byOf s)).fmod (lowOf s) := Int.fmod_nonneg_of_pos _ q1
  have e2 : (topOf s + Rt f (byOf s)).fmod (lowOf s) < lowOf s := Int.fmod_lt_of_pos _ q1
  generalize (topOf s + Rt f (byOf s)).fmod (lowOf s) = r at e e1 e2
  -- the parts by the measure
  have c1 : ∀ d : Nat, 0 < d → (lowOf s).fdiv d * d = lowOf s → 0 ≤ (lowOf s).fdiv d ∧ (lowOf s).fdiv d ≤ lowOf s := fun d hd h => by
    have : 0 ≤ (lowOf s).fdiv d := by
      rcases Int.lt_or_le ((lowOf s).fdiv d) 0 with c | c
      · have := Int.mul_neg_of_neg_of_pos c (show (0 : Int) < d by omega); omega
      · exact c
    refine ⟨this, ?_⟩
    have := Int.mul_le_mul_of_nonneg_left (show (1 : Int) ≤ d by omega) this
    omega
  obtain ⟨u1, u2⟩ := c1 _ s.1.den_pos q2
  obtain ⟨v1, v2⟩ := c1 _ s.2.den_pos q3
  have ab : ∀ (a c : Int), 0 ≤ c → c ≤ lowOf s → -(lowOf s * a.natAbs) ≤ a * c ∧ a * c ≤ lowOf s * a.natAbs := fun a c h0 h1 => by
    have h2 := Int.mul_le_mul_of_nonneg_left h1 (show (0 : Int) ≤ a.natAbs by omega)
    have e : (lowOf s) * (a.natAbs : Int) = (a.natAbs : Int) * lowOf s := Int.mul_comm _ _
    rcases Int.le_total 0 a with ca | ca
    · have : (a.natAbs : Int) = a := by omega
      rw [this] at h2 e ⊢
      have := Int.mul_nonneg ca h0
      omega
    · have : (a.natAbs : Int) = -a := by omega
      rw [this] at h2 e ⊢
      have h3 := Int.mul_nonneg (show 0 ≤ -a by omega) h0
      have e3 : -a * c = -(a * c) := by grind
      omega
  have tp := ab s.1.num _ u1 u2
  have bp := ab s.2.num _ v1 v2
  have et : topOf s = s.1.num * (lowOf s).fdiv s.1.den := rfl
  have eb : byOf s = s.2.num * (lowOf s).fdiv s.2.den := rfl
  rw [← et] at tp
  rw [← eb] at bp
  obtain ⟨z1, z2, z3⟩ := rt0_spec hf0 (byOf s)
  have rb : rt0 f (byOf s) ≤ (byOf s).natAbs * f := by
    refine sq_le (Int.mul_nonneg (by omega) (by omega)) ?_
    have y2 : ((byOf s).natAbs : Int) * (byOf s).natAbs = byOf s * byOf s := Int.natAbs_mul_self
    have h1 : byOf s * byOf s * f ≤ byOf s * byOf s * f * f := by
      have := Int.mul_le_mul_of_nonneg_left (show 1 ≤ f by omega) (yyf hf0 (byOf s))
      omega
    have e5 : ((byOf s).natAbs : Int) * f * ((byOf s).natAbs * f) = byOf s * byOf s * f * f := by rw [← y2]; grind
    omega
  have rR : -((byOf s).natAbs * f + 1) ≤ Rt f (byOf s) ∧ Rt f (byOf s) ≤ (byOf s).natAbs * f := by
    have h0 : 0 ≤ ((byOf s).natAbs : Int) * f := Int.mul_nonneg (by omega) (by omega)
    unfold Rt
    split
    · split <;> omega
    · omega
  have yb : ((byOf s).natAbs : Int) ≤ lowOf s * s.2.num.natAbs := by omega
  have ybf := Int.mul_le_mul_of_nonneg_right yb (show 0 ≤ f by omega)
  -- together
  have g1 : lowOf s * flr f s ≤ lowOf s * (s.1.num.natAbs + s.2.num.natAbs * f + 2) := by
    have : lowOf s * (s.1.num.natAbs + s.2.num.natAbs * f + 2) = lowOf s * s.1.num.natAbs + lowOf s * s.2.num.natAbs * f + 2 * lowOf s := by grind
    omega
  have g2 : lowOf s * -(s.1.num.natAbs + s.2.num.natAbs * f + 2) ≤ lowOf s * flr f s := by
    have : lowOf s * -(s.1.num.natAbs + s.2.num.natAbs * f + 2) = -(lowOf s * s.1.num.natAbs + lowOf s * s.2.num.natAbs * f + 2 * lowOf s) := by grind
    omega
  have g1' := Int.le_of_mul_le_mul_left g1 q1
  have g2' := Int.le_of_mul_le_mul_left g2 q1
  have b1 := hs.1.1
  have b2 := hs.2.1
  have fb : s.2.num.natAbs * f ≤ (2 ^ m : Nat) * 15 := by
    have h1 := Int.mul_le_mul_of_nonneg_left (show f ≤ 15 by have : f.natAbs < 16 := hf; omega) (show (0 : Int) ≤ s.2.num.natAbs by omega)
    have h2 := Int.mul_le_mul_of_nonneg_right (show (s.2.num.natAbs : Int) ≤ (2 ^ m : Nat) by omega) (show (0 : Int) ≤ 15 by omega)
    omega
  have pm : (2 : Nat) ^ (m + 5) = 2 ^ m * 32 := by rw [Nat.pow_add]
  have p1 : (2 : Nat) ^ 1 ≤ 2 ^ m := Nat.pow_le_pow_right (by omega) hm
  rw [pm]
  generalize (2 : Nat) ^ m = M at *
  omega
theorem s2_scl (f : Int) {n : Nat} (hs : s2 n s) (k : Nat) : s2 (n + (k + 1)) (scl f s k) := by
  rw [scl_eq]
  exact ⟨sz_mul hs.1 (sz_int (T2_sz k) (by omega)), sz_mul hs.2 (sz_int (T2_sz k) (by omega))⟩
theorem Nk_bd (hf0 : 0 < f) (hf : f.natAbs < 2 ^ 4) {n : Nat} (hs : s2 n s) (k : Nat) : (Nk f s k).natAbs < 2 ^ (n + k + 7) := by
  have h := flr_bd hf0 hf (s2_scl f hs k) (by omega)
  unfold Nk
  have pm : (2 : Nat) ^ (n + k + 7) = 2 ^ (n + (k + 1) + 5) * 2 := by rw [← Nat.pow_succ]; congr 1
  have := Nat.two_pow_pos (n + (k + 1) + 5)
  rw [pm]
  omega
end
end K26
set_option Elab.async false
set_option maxRecDepth 100000
set_option linter.unusedVariables false
set_option linter.unusedSimpArgs false
set_option exponentiation.threshold 10000
/-! M9: the walk of the fraction between. -/
namespace K26
open PySem Pv L2
/-- a fraction as it is written -/
def fr (t l : Int) : PyData := .tuple [.int t, .int l]
@[simp] theorem ix_fr0 {t l : Int} : ixD (fr t l) (.int 0) = some (.int t) := by simp [fr]
@[simp] theorem ix_fr1 {t l : Int} : ixD (fr t l) (.int 1) = some (.int l) := by simp [fr]
theorem fr_eq (q : Rat) : fr q.num q.den = eq q := rfl
theorem fr_tup (t l : Int) : PyData.tuple [.int t, .int l] = fr t l := rfl
section
variable {s t : Sd} {n m : Nat} {f u l : Int} {b : Rat}
theorem sub_raw (hl : l ≠ 0) (b : Rat) : Rat.divInt u l - b = Rat.divInt (u * b.den - b.num * l) (l * b.den) := by
  conv => lhs; rw [← Rat.num_divInt_den b]
  rw [Rat.divInt_sub_divInt _ _ hl (den_ne b)]
theorem w_diff_raw (F d : Nat) (hd : 3 ≤ d) (hl : l ≠ 0) (hu : u.natAbs < 2 ^ n) (hl2 : l.natAbs < 2 ^ n) (hb : sz m b) (h : n + m < 8999) (S : Sto) : CF F d 7 [.d (fr u l), .d (eq b)] S = .ok (.d (eq (Rat.divInt u l - b))) S := by
  obtain ⟨d, rfl⟩ : ∃ e, d = e + 1 := ⟨d - 1, by omega⟩
  refine (cf_eq (f := i_difference.fn) rfl rfl).trans ?_
  have key := w_reduced F d (by omega) (t := u * b.den - b.num * l) (l := l * b.den) (Int.mul_ne_zero hl (den_ne b)) (nab_le (nab_mul hl2 (nab_cast hb.2)) (by omega)) S
  have k1 : mulOk u b.den = true := mul_ok hu (nab_cast hb.2) (by omega)
  have k2 : mulOk b.num l = true := mul_ok hb.1 hl2 (by omega)
  have k3 : mulOk l b.den = true := mul_ok hl2 (nab_cast hb.2) (by omega)
  simp [i_difference, b_difference, Pv.start, k1, k2, k3, key, sub_raw hl b]
theorem w_sof (F d : Nat) (hd : 1 ≤ d) (x : PyData) (S : Sto) : CF F d 17 [.d x] S = .ok (.d (.tuple [x, eq 0])) S := by
  obtain ⟨d, rfl⟩ : ∃ e, d = e + 1 := ⟨d - 1, by omega⟩
  refine (cf_eq (f := i_surd_of.fn) rfl rfl).trans ?_
  simp [i_surd_of, b_surd_of, Pv.start, eq_0]
theorem w_sless_raw (F d : Nat) (hd : 4 ≤ d) (hl : l ≠ 0) (hu : u.natAbs < 2 ^ n) (hl2 : l.natAbs < 2 ^ n) (ht : s2 m t) (hn : 1 ≤ n) (h : n + m < 8999) (S : Sto) : CF F d 20 [.d (.tuple [fr u l, eq 0]), .d (sd t)] S = .ok (.d (sd (ssub (Rat.divInt u l, 0) t))) S := by
  obtain ⟨d, rfl⟩ : ∃ e, d = e + 1 := ⟨d - 1, by omega⟩
  refine (cf_eq (f := i_surd_less.fn) rfl rfl).trans ?_
  have e1 := w_diff_raw F d (by omega) hl hu hl2 ht.1 h
  have e2 := w_difference F d (by omega) (sz_0 hn) ht.2 h
  simp [i_surd_less, b_surd_less, Pv.start, e1, e2]
  rfl
theorem s2_raw (hl : l ≠ 0) (hu : u.natAbs < 2 ^ n) (hl2 : l.natAbs < 2 ^ n) (hn : 1 ≤ n) : s2 n ((Rat.divInt u l, 0) : Sd) := ⟨di_sz hl hu hl2, sz_0 hn⟩
theorem w_isless_raw (F d : Nat) (hd : 6 ≤ d) (hf : f.natAbs < 2 ^ 4) (hl : l ≠ 0) (hu : u.natAbs < 2 ^ n) (hl2 : l.natAbs < 2 ^ n) (ht : s2 m t) (hn : 1 ≤ n) (h : 4 * (n + m + 1) + 5 < 8999) (S : Sto) :
    CF F d 27 [.d (.int f), .d (.tuple [fr u l, eq 0]), .d (sd t)] S = .ok (.d (.bool (decide (sig f (ssub (Rat.divInt u l, 0) t) < 0)))) S := by
  obtain ⟨d, rfl⟩ : ∃ e, d = e + 1 := ⟨d - 1, by omega⟩
  refine (cf_eq (f := i_surd_is_less.fn) rfl rfl).trans ?_
  have e1 := w_sless_raw F d (by omega) hl hu hl2 ht hn (by omega)
  have e2 := w_ssign F d (by omega) hf (s2_sub (s2_raw hl hu hl2 hn) ht) (by omega)
  simp [i_surd_is_less, b_surd_is_less, Pv.start, e1, e2, ssg_sig]
theorem sd_tup (a : Rat) : PyData.tuple [eq a, eq 0] = sd (a, 0) := rfl
theorem fr_1 (u : Int) : fr u 1 = eq (u : Rat) := eq_int u
/-- the search -/
theorem btw_loop (F0 d : Nat) (hd : 6 ≤ d) (hf0 : 0 < f) (hf : f.natAbs < 2 ^ 4) (hs : s2 n s) (ht : s2 n t) (K : Nat) (hK : 4 * (n + K + 7 + n + 1) + 5 < 8999) (hK2 : 6 * (n + (K + 1)) + 4 < 8999) (hN : lss f s t K) (hJ : ∀ j, j < K → ¬ lss f s t j) (w : Option A) (S : Sto) :
    ∀ (j k fuel : Nat), k + j = K → j < fuel → whlGo (tstF ⟨callF (tabT ds) F0 d, F0⟩ (.not (.call 27 (.cons (.v 0) (.cons (.call 17 (.cons (.v 4) .nil)) (.cons (.v 2) .nil))))))
      (bodyF ⟨callF (tabT ds) F0 d, F0⟩ (.cons (.set 3 (.bin .mul (.k (.int 2)) (.v 3))) (.cons (.set 4 (.tup (.cons (.bin .add (.call 28 (.cons (.v 0) (.cons (.call 21 (.cons (.v 0) (.cons (.v 1) (.cons (.call 17 (.cons (.tup (.cons (.v 3) (.cons (.k (.int 1)) .nil))) .nil)) .nil)))) .nil))) (.k (.int 1))) (.cons (.v 3) .nil)))) .nil)))
      fuel [some (.d (.int f)), some (.d (sd s)), some (.d (sd t)), some (.d (.int (T2 k))), some (.d (fr (Nk f s k) (T2 k))), w] S =
      .ok (.nx [some (.d (.int f)), some (.d (sd s)), some (.d (sd t)), some (.d (.int (T2 K))), some (.d (fr (Nk f s K) (T2 K))), w]) S := by
  intro j
  induction j with
  | zero =>
    intro k fuel hk hfu
    obtain ⟨fuel, rfl⟩ : ∃ e, fuel = e + 1 := ⟨fuel - 1, by omega⟩
    have : k = K := by omega
    subst this
    have e1 := w_sof F0 d (by omega) (fr (Nk f s k) (T2 k))
    have e2 := w_isless_raw (n := n + k + 7) F0 d (by omega) hf (by have := T2_pos k; omega) (Nk_bd hf0 hf hs k) (nab_le (T2_sz k) (by omega)) ht (by omega) (by omega)
    have e3 : sig f (ssub (Rat.divInt (Nk f s k) (T2 k), 0) t) < 0 := hN
    exact whl_off (S1 := S) (by simp [tstF, e1, e2, e3])
  | succ j ih =>
    intro k fuel hk hfu
    obtain ⟨fuel, rfl⟩ : ∃ e, fuel = e + 1 := ⟨fuel - 1, by omega⟩
    have e1 := fun x => w_sof F0 d (by omega) x
    have e2 := w_isless_raw (n := n + k + 7) F0 d (by omega) hf (by have := T2_pos k; omega) (Nk_bd hf0 hf hs k) (nab_le (T2_sz k) (by omega)) ht (by omega) (by omega)
    have e3 : ¬ sig f (ssub (Rat.divInt (Nk f s k) (T2 k), 0) t) < 0 := hJ k (by omega)
    have m1 : mulOk 2 (T2 k) = true := mul_ok (n := 2) (by decide) (T2_sz k) (by omega)
    have e4 := w_stimes F0 d (by omega) hf hs (t := ((T2 (k + 1) : Rat), 0)) (m := k + 2) ⟨sz_int (T2_sz (k + 1)) (by omega), sz_0 (by omega)⟩ (by omega)
    have e5 := w_floor F0 d (by omega) hf0 hf (s2_scl f hs (k + 1)) (by omega)
    rw [whl_on (S1 := S) (S2 := S) (σ' := [some (.d (.int f)), some (.d (sd s)), some (.d (sd t)), some (.d (.int (T2 (k + 1)))), some (.d (fr (Nk f s (k + 1)) (T2 (k + 1)))), w]) (by simp [tstF, e1, e2, e3]) ?_]
    · exact ih (k + 1) fuel (by omega) (by omega)
    · have e6 : smul f s ((T2 (k + 1) : Rat), 0) = scl f s (k + 1) := rfl
      rw [e6] at e4
      simp [bodyF, m1, ← T2_succ, fr_tup, fr_1, e1, sd_tup, e4, e5]
      rfl
theorem w_between (F d : Nat) (hd : 7 ≤ d) (hF : 8999 ≤ F) (hf0 : 0 < f) (hf : f.natAbs < 2 ^ 4) (hs : s2 n s) (ht : s2 n t) (K : Nat) (hK : 4 * (n + K + 7 + n + 1) + 5 < 8999) (hK2 : 6 * (n + (K + 1)) + 4 < 8999) (hN : lss f s t K) (hJ : ∀ j, j < K → ¬ lss f s t j) (S : Sto) :
    CF F d 29 [.d (.int f), .d (sd s), .d (sd t)] S = .ok (.d (eq (Rat.divInt (Nk f s K) (T2 K)))) S := by
  obtain ⟨d, rfl⟩ : ∃ e, d = e + 1 := ⟨d - 1, by omega⟩
  refine (cf_eq (f := i_fraction_between.fn) rfl rfl).trans ?_
  have e1 := w_floor F d (by omega) hf0 hf hs (by omega)
  have es : scl f s 0 = s := by rw [scl_eq]; unfold T2; simp
  have e0 : flr f s + 1 = Nk f s 0 := by unfold Nk; rw [es]
  have t0 : (1 : Int) = T2 0 := rfl
  have loop := fun w => btw_loop F d (by omega) hf0 hf hs ht K hK hK2 hN hJ w S K 0 F (by omega) (by omega)
  have cm := w_common F d (by omega) (Nk f s K) (T2 K)
  have n1 := fdiv_num (t := Nk f s K) (l := T2 K) (by have := T2_pos K; omega)
  have n2 := fdiv_den (t := Nk f s K) (l := T2 K) (by have := T2_pos K; omega)
  rw [if_pos (T2_pos K)] at n1 n2
  have hg := gcd_pos' (t := Nk f s K) (l := T2 K) (by have := T2_pos K; omega)
  have hle : Nat.gcd (Nk f s K).natAbs (T2 K).natAbs ≤ (T2 K).natAbs := Nat.le_of_dvd (by have := T2_pos K; omega) (Nat.gcd_dvd_right _ _)
  have dv : divOk ((Nat.gcd (Nk f s K).natAbs (T2 K).natAbs : Nat) : Int) = true := div_ok (m := K + 1) (by omega) (by rw [Int.natAbs_natCast]; have := T2_sz K; omega) (by omega)
  simp only [i_fraction_between, b_fraction_between, Pv.start]
  simp [e1, e0, fr_tup]
  rw [show fr (Nk f s 0) 1 = fr (Nk f s 0) (T2 0) from rfl, show A.d (PyData.int 1) = A.d (PyData.int (T2 0)) from rfl]
  simp [loop, cm, dv, n1, n2]
  rfl
end
end K26
set_option Elab.async false
set_option maxRecDepth 100000
set_option linter.unusedVariables false
set_option linter.unusedSimpArgs false
set_option exponentiation.threshold 10000
/-! M10: the program's checks of its input. -/
namespace K26
open PySem Pv L2
theorem flat_eq (a : Rat) : flatD (eq a) = true := rfl
theorem flat_sd (s : Sd) : flatD (sd s) = true := rfl
theorem eqv_eq (a b : Rat) : PyData.eqv (eq a) (eq b) = decide (a = b) := by
  have : PyData.eqv (eq a) (eq b) = ((a.num == b.num) && (((a.den : Int) == (b.den : Int)) && true)) := rfl
  rw [this, Bool.and_true]
  by_cases h : a = b
  · subst h; simp
  · have : ¬ (a.num = b.num ∧ a.den = b.den) := fun ⟨h1, h2⟩ => h (Rat.ext h1 h2)
    by_cases h1 : a.num = b.num
    · have h2 : ¬ a.den = b.den := fun z => this ⟨h1, z⟩
      have h3 : ¬ ((a.den : Int) = (b.den : Int)) := by omega
      simp [h1, h3, h]
    · simp [h1, h]
theorem eqv_sd (s t : Sd) : PyData.eqv (sd s) (sd t) = decide (s = t) := by
  have : PyData.eqv (sd s) (sd t) = (PyData.eqv (eq s.1) (eq t.1) && (PyData.eqv (eq s.2) (eq t.2) && true)) := rfl
  rw [this, eqv_eq, eqv_eq, Bool.and_true]
  by_cases h : s = t
  · subst h; simp
  · have : ¬ (s.1 = t.1 ∧ s.2 = t.2) := fun ⟨h1, h2⟩ => h (Prod.ext h1 h2)
    by_cases h1 : s.1 = t.1
    · have h2 : ¬ s.2 = t.2 := fun z => this ⟨h1, z⟩
      simp [h1, h2, h]
    · simp [h1, h]
theorem cmp_eq (a b : Rat) : cmpD .eq (eq a) (eq b) = some (decide (a = b)) := by
  show (if flatD (eq a) && flatD (eq b) then some (PyData.eqv (eq a) (eq b)) else none) = _
  rw [flat_eq, flat_eq, eqv_eq]; rfl
theorem cmp_ne_sd (s t : Sd) : cmpD .ne (sd s) (sd t) = some (!decide (s = t)) := by
  show (if flatD (sd s) && flatD (sd t) then some (!PyData.eqv (sd s) (sd t)) else none) = _
  rw [flat_sd, flat_sd, eqv_sd]; rfl
@[simp] theorem len_eq (a : Rat) : biD .len [eq a] = some (.int 2) := rfl
@[simp] theorem len_sd (s : Sd) : biD .len [sd s] = some (.int 2) := rfl
@[simp] theorem tup_eq (a : Rat) : biD .isTup [eq a] = some (.bool true) := rfl
@[simp] theorem tup_sd (s : Sd) : biD .isTup [sd s] = some (.bool true) := rfl
@[simp] theorem it_eq (a : Rat) : itemsOf (eq a) = some [.int a.num, .int (a.den : Int)] := rfl
@[simp] theorem it_sd (s : Sd) : itemsOf (sd s) = some [eq s.1, eq s.2] := rfl
theorem red1 (a : Rat) : Nat.gcd a.num.natAbs a.den = 1 := a.reduced
theorem w_isint (F d : Nat) (hd : 1 ≤ d) (x : Int) (S : Sto) : CF F d 0 [.d (.int x)] S = .ok (.d (.bool true)) S := by
  obtain ⟨d, rfl⟩ : ∃ e, d = e + 1 := ⟨d - 1, by omega⟩
  refine (cf_eq (f := i_is_integer.fn) rfl rfl).trans ?_
  simp [i_is_integer, b_is_integer, Pv.start]
theorem w_isbtw (F d : Nat) (hd : 2 ≤ d) {x lo hi : Int} (h1 : lo ≤ x) (h2 : x ≤ hi) (S : Sto) : CF F d 1 [.d (.int x), .d (.int lo), .d (.int hi)] S = .ok (.d (.bool true)) S := by
  obtain ⟨d, rfl⟩ : ∃ e, d = e + 1 := ⟨d - 1, by omega⟩
  refine (cf_eq (f := i_is_between.fn) rfl rfl).trans ?_
  simp [i_is_between, b_is_between, Pv.start, w_isint F d (by omega), h1, h2]
theorem w_isfrac (F d : Nat) (hd : 2 ≤ d) (a : Rat) (S : Sto) : CF F d 4 [.d (eq a)] S = .ok (.d (.bool true)) S := by
  obtain ⟨d, rfl⟩ : ∃ e, d = e + 1 := ⟨d - 1, by omega⟩
  refine (cf_eq (f := i_is_fraction.fn) rfl rfl).trans ?_
  have h : ¬ (a.den : Int) < 1 := by have := a.den_pos; omega
  have h2 : (1 : Int) ≤ a.den := by omega
  simp [i_is_fraction, b_is_fraction, Pv.start, w_isint F d (by omega), w_common F d (by omega), lcF, h2, red1]
theorem zB : (2 ^ 990 : Int) < z_BEYOND := by decide +kernel
theorem w_istold (F d : Nat) (hd : 3 ≤ d) {a : Rat} (ha : sz 990 a) (S : Sto) : CF F d 5 [.d (eq a)] S = .ok (.d (.bool true)) S := by
  obtain ⟨d, rfl⟩ : ∃ e, d = e + 1 := ⟨d - 1, by omega⟩
  refine (cf_eq (f := i_is_told_fraction.fn) rfl rfl).trans ?_
  have hz := zB
  have h1 := ha.1
  have h2 := ha.2
  have k1 : (if a.num < 0 then -a.num else a.num) < z_BEYOND := by split <;> omega
  have k2 : (a.den : Int) < z_BEYOND := by omega
  simp [i_is_told_fraction, b_is_told_fraction, Pv.start, w_isfrac F d (by omega), c_BEYOND, k1, k2]
theorem w_issurd (F d : Nat) (hd : 4 ≤ d) {f : Int} {s : Sd} (hs : s2 990 s) (h : 1 < f ∨ s.2 = 0) (S : Sto) : CF F d 15 [.d (.int f), .d (sd s)] S = .ok (.d (.bool true)) S := by
  obtain ⟨d, rfl⟩ : ∃ e, d = e + 1 := ⟨d - 1, by omega⟩
  refine (cf_eq (f := i_is_surd.fn) rfl rfl).trans ?_
  by_cases hf : 1 < f
  · simp [i_is_surd, b_is_surd, Pv.start, w_istold F d (by omega) hs.1, w_istold F d (by omega) hs.2, lcF, hf]
  · have h : s.2 = 0 := h.resolve_left hf
    simp [i_is_surd, b_is_surd, Pv.start, w_istold F d (by omega) hs.1, w_istold F d (by omega) hs.2, lcF, hf, eq_0, cmp_eq, h, w_istold F d (by omega) (sz_0 (n := 990) (by omega))]
theorem w_chksurd (F d : Nat) (hd : 5 ≤ d) {f : Int} {s : Sd} (hs : s2 990 s) (h : 1 < f ∨ s.2 = 0) (S : Sto) : CF F d 16 [.d (.int f), .d (sd s)] S = .ok (.d .none) S := by
  obtain ⟨d, rfl⟩ : ∃ e, d = e + 1 := ⟨d - 1, by omega⟩
  refine (cf_eq (f := i_check_surd.fn) rfl rfl).trans ?_
  simp [i_check_surd, b_check_surd, Pv.start, w_issurd F d (by omega) hs h]
/-- the fields of the law -/
def isF (f : Int) : Prop := f = 1 ∨ f = 2 ∨ f = 3 ∨ f = 5 ∨ f = 6 ∨ f = 7 ∨ f = 10 ∨ f = 13
theorem isq : Float64.isqrt 1 = 1 ∧ Float64.isqrt 2 = 1 ∧ Float64.isqrt 3 = 1 ∧ Float64.isqrt 5 = 2 ∧ Float64.isqrt 6 = 2 ∧ Float64.isqrt 7 = 2 ∧ Float64.isqrt 13 = 3 := by decide +kernel
theorem w_issq (F d : Nat) (hd : 1 ≤ d) {x r : Nat} (hr : Float64.isqrt x = r) (hx : x < 100) (hr2 : r < 100) (S : Sto) : CF F d 11 [.d (.int (x : Int))] S = .ok (.d (.bool (decide ((r : Int) * r = x)))) S := by
  obtain ⟨d, rfl⟩ : ∃ e, d = e + 1 := ⟨d - 1, by omega⟩
  refine (cf_eq (f := i_is_square.fn) rfl rfl).trans ?_
  have h0 : ¬ (x : Int) < 0 := by omega
  have h1 : (0 : Int) ≤ x := by omega
  have lg : x.log2 < 13000 := by have := log_of (show x < 2 ^ 7 by omega); omega
  have m : mulOk (r : Int) r = true := mul_ok (n := 7) (m := 7) (by rw [Int.natAbs_natCast]; omega) (by rw [Int.natAbs_natCast]; omega) (by omega)
  simp [i_is_square, b_is_square, Pv.start, h0, h1, lg, hr, m]
theorem core_small (F d : Nat) (hd : 2 ≤ d) (hF : 10 ≤ F) {x r : Nat} (hr : Float64.isqrt x = r) (hx : x < 8) (hx0 : 1 ≤ x) (hr2 : r < 100) (hsq : r * r = x → r = 1 ∧ x = 1) (S : Sto) : CF F d 12 [.d (.int (x : Int))] S = .ok (.d (.tuple [.int (x : Int), .int 1])) S := by
  obtain ⟨d, rfl⟩ : ∃ e, d = e + 1 := ⟨d - 1, by omega⟩
  obtain ⟨F, rfl⟩ : ∃ e, F = e + 1 := ⟨F - 1, by omega⟩
  refine (cf_eq (f := i_core_told.fn) rfl rfl).trans ?_
  have q := w_issq (F + 1) d (by omega) hr (by omega) hr2
  have lg : x.log2 < 13000 := by have := log_of (show x < 2 ^ 7 by omega); omega
  have h8 : ¬ (8 : Int) ≤ x := by omega
  have h8' : (x : Int) < 8 := by omega
  have m22 : mulOk 2 2 = true := by decide
  have m42 : mulOk 4 2 = true := by decide
  have m11 : mulOk 1 1 = true := by decide
  have m1x : mulOk 1 (x : Int) = true := mul_ok (n := 1) (m := 7) (by decide) (by rw [Int.natAbs_natCast]; omega) (by omega)
  simp only [i_core_told, b_core_told, Pv.start]
  by_cases c : (r : Int) * r = x
  · have c' : r * r = x := by exact_mod_cast c
    obtain ⟨rfl, rfl⟩ := hsq c'
    simp [m22, m42, m11, hr] at q ⊢
    rw [whl_off (S1 := S) (by simp [tstF, m22, m42])]
    simp [q, m11, hr, show Nat.log2 1 < 13000 by decide]
  · simp
    rw [whl_off (S1 := S) (by simp [tstF, m22, m42, h8])]
    simp [q, c, m22, m42, m1x, h8']
theorem core_10 (F d : Nat) (hd : 2 ≤ d) (hF : 10 ≤ F) (S : Sto) : CF F d 12 [.d (.int 10)] S = .ok (.d (.tuple [.int 10, .int 1])) S := by
  obtain ⟨d, rfl⟩ : ∃ e, d = e + 1 := ⟨d - 1, by omega⟩
  obtain ⟨F, rfl⟩ : ∃ e, F = e + 2 := ⟨F - 2, by omega⟩
  refine (cf_eq (f := i_core_told.fn) rfl rfl).trans ?_
  have q := w_issq (F + 2) d (by omega) isq.2.2.2.1 (by omega) (by omega) S
  have m22 : mulOk 2 2 = true := by decide
  have m42 : mulOk 4 2 = true := by decide
  have m33 : mulOk 3 3 = true := by decide
  have m93 : mulOk 9 3 = true := by decide
  have m12 : mulOk 1 2 = true := by decide
  have m25 : mulOk 2 5 = true := by decide
  have d2 : divOk 2 = true := by decide
  simp only [i_core_told, b_core_told, Pv.start]
  simp
  rw [whl_on (S1 := S) (S2 := S) (σ' := [some (.d (.int 10)), some (.d (.int 5)), some (.d (.int 2)), some (.d (.int 1)), some (.d (.int 3))]) (by simp [tstF, m22, m42]) (by
    simp only [bodyF, sts_cons, st_whl]
    rw [whl_off (S1 := S) (by simp [tstF, m22])]
    simp [d2, m12])]
  rw [whl_off (S1 := S) (by simp [tstF, m33, m93])]
  have q' : callF (tabT ds) (F + 2) d 11 [.d (.int 5)] S = .ok (.d (.bool false)) S := q
  simp [q', m33, m93, m25]
theorem core_13 (F d : Nat) (hd : 2 ≤ d) (hF : 10 ≤ F) (S : Sto) : CF F d 12 [.d (.int 13)] S = .ok (.d (.tuple [.int 13, .int 1])) S := by
  obtain ⟨d, rfl⟩ : ∃ e, d = e + 1 := ⟨d - 1, by omega⟩
  obtain ⟨F, rfl⟩ : ∃ e, F = e + 2 := ⟨F - 2, by omega⟩
  refine (cf_eq (f := i_core_told.fn) rfl rfl).trans ?_
  have q := w_issq (F + 2) d (by omega) isq.2.2.2.2.2.2 (by omega) (by omega) S
  have m22 : mulOk 2 2 = true := by decide
  have m42 : mulOk 4 2 = true := by decide
  have m33 : mulOk 3 3 = true := by decide
  have m93 : mulOk 9 3 = true := by decide
  have m25 : mulOk 1 13 = true := by decide
  simp only [i_core_told, b_core_told, Pv.start]
  simp
  rw [whl_on (S1 := S) (S2 := S) (σ' := [some (.d (.int 13)), some (.d (.int 13)), some (.d (.int 1)), some (.d (.int 1)), some (.d (.int 3))]) (by simp [tstF, m22, m42]) (by
    simp only [bodyF, sts_cons, st_whl]
    rw [whl_off (S1 := S) (by simp [tstF, m22])]
    simp)]
  rw [whl_off (S1 := S) (by simp [tstF, m33, m93])]
  have q' : callF (tabT ds) (F + 2) d 11 [.d (.int 13)] S = .ok (.d (.bool false)) S := q
  simp [q', m33, m93, m25]
theorem w_core (F d : Nat) (hd : 2 ≤ d) (hF : 10 ≤ F) {f : Int} (hf : isF f) (S : Sto) : CF F d 12 [.d (.int f)] S = .ok (.d (.tuple [.int f, .int 1])) S := by
  obtain ⟨i1, i2, i3, i5, i6, i7, i13⟩ := isq
  rcases hf with rfl | rfl | rfl | rfl | rfl | rfl | rfl | rfl
  · exact core_small F d hd hF (x := 1) i1 (by omega) (by omega) (by omega) (by omega) S
  · exact core_small F d hd hF (x := 2) i2 (by omega) (by omega) (by omega) (by omega) S
  · exact core_small F d hd hF (x := 3) i3 (by omega) (by omega) (by omega) (by omega) S
  · exact core_small F d hd hF (x := 5) i5 (by omega) (by omega) (by omega) (by omega) S
  · exact core_small F d hd hF (x := 6) i6 (by omega) (by omega) (by omega) (by omega) S
  · exact core_small F d hd hF (x := 7) i7 (by omega) (by omega) (by omega) (by omega) S
  · exact core_10 F d hd hF S
  · exact core_13 F d hd hF S
theorem isF.one {f : Int} (h : isF f) : 1 ≤ f ∧ f ≤ 13 := by
  rcases h with rfl | rfl | rfl | rfl | rfl | rfl | rfl | rfl <;> omega
theorem isF.sz {f : Int} (h : isF f) : f.natAbs < 2 ^ 4 := by have := h.one; omega
theorem w_isfield (F d : Nat) (hd : 4 ≤ d) (hF : 10 ≤ F) {f : Int} (hf : isF f) (S : Sto) : CF F d 13 [.d (.int f)] S = .ok (.d (.bool true)) S := by
  obtain ⟨d, rfl⟩ : ∃ e, d = e + 1 := ⟨d - 1, by omega⟩
  refine (cf_eq (f := i_is_field.fn) rfl rfl).trans ?_
  have hz := zB
  have h1 := w_isbtw F d (by omega) (lo := 1) (hi := z_BEYOND - 1) hf.one.1 (by have := hf.one.2; omega) S
  simp [i_is_field, b_is_field, Pv.start, c_BEYOND, h1, w_core F d (by omega) hF hf]
theorem w_chkfield (F d : Nat) (hd : 5 ≤ d) (hF : 10 ≤ F) {f : Int} (hf : isF f) (S : Sto) : CF F d 14 [.d (.int f)] S = .ok (.d .none) S := by
  obtain ⟨d, rfl⟩ : ∃ e, d = e + 1 := ⟨d - 1, by omega⟩
  refine (cf_eq (f := i_check_field.fn) rfl rfl).trans ?_
  simp [i_check_field, b_check_field, Pv.start, w_isfield F d (by omega) hF hf]
/-- a surd of the field, of a size -/
structure SdOk (f : Int) (n : Nat) (s : Sd) : Prop where
  sz : s2 n s
  one : 1 < f ∨ s.2 = 0
section
variable {f : Int} {s t : Sd} {n : Nat}
theorem w_chk2 (F d : Nat) (hd : 6 ≤ d) (hF : 10 ≤ F) (hf : isF f) (hs : SdOk f n s) (ht : SdOk f n t) (hn : n ≤ 990) (S : Sto) : CF F d 30 [.d (.int f), .d (sd s), .d (sd t)] S = .ok (.d .none) S := by
  obtain ⟨d, rfl⟩ : ∃ e, d = e + 1 := ⟨d - 1, by omega⟩
  refine (cf_eq (f := i_check_two_surds.fn) rfl rfl).trans ?_
  simp [i_check_two_surds, b_check_two_surds, Pv.start, w_chkfield F d (by omega) hF hf, w_chksurd F d (by omega) (hs.sz.mono hn) hs.one, w_chksurd F d (by omega) (ht.sz.mono hn) ht.one]
theorem w_sum (F d : Nat) (hd : 7 ≤ d) (hF : 10 ≤ F) (hf : isF f) (hs : SdOk f n s) (ht : SdOk f n t) (hn : n ≤ 500) (S : Sto) : CF F d 31 [.d (.int f), .d (sd s), .d (sd t)] S = .ok (.d (sd (sadd s t))) S := by
  obtain ⟨d, rfl⟩ : ∃ e, d = e + 1 := ⟨d - 1, by omega⟩
  refine (cf_eq (f := i_surd_sum.fn) rfl rfl).trans ?_
  simp [i_surd_sum, b_surd_sum, Pv.start, w_chk2 F d (by omega) hF hf hs ht (by omega), w_splus F d (by omega) hs.sz ht.sz (by omega)]
theorem w_prod (F d : Nat) (hd : 7 ≤ d) (hF : 10 ≤ F) (hf : isF f) (hs : SdOk f n s) (ht : SdOk f n t) (hn : n ≤ 500) (S : Sto) : CF F d 32 [.d (.int f), .d (sd s), .d (sd t)] S = .ok (.d (sd (smul f s t))) S := by
  obtain ⟨d, rfl⟩ : ∃ e, d = e + 1 := ⟨d - 1, by omega⟩
  refine (cf_eq (f := i_surd_product.fn) rfl rfl).trans ?_
  simp [i_surd_product, b_surd_product, Pv.start, w_chk2 F d (by omega) hF hf hs ht (by omega), w_stimes F d (by omega) hf.sz hs.sz ht.sz (by omega)]
theorem w_isnoth (F d : Nat) (hd : 1 ≤ d) (s : Sd) (S : Sto) : CF F d 18 [.d (sd s)] S = .ok (.d (.bool (decide (s = (0, 0))))) S := by
  obtain ⟨d, rfl⟩ : ∃ e, d = e + 1 := ⟨d - 1, by omega⟩
  refine (cf_eq (f := i_is_nothing.fn) rfl rfl).trans ?_
  obtain ⟨a, b⟩ := s
  by_cases h1 : a.num = 0
  · by_cases h2 : b.num = 0
    · simp [i_is_nothing, b_is_nothing, Pv.start, h1, h2, Rat.num_eq_zero.mp h1, Rat.num_eq_zero.mp h2]
    · have : ¬ b = 0 := fun z => h2 (by rw [z]; rfl)
      simp [i_is_nothing, b_is_nothing, Pv.start, h1, h2, this]
  · have : ¬ a = 0 := fun z => h1 (by rw [z]; rfl)
    simp [i_is_nothing, b_is_nothing, Pv.start, h1, this]
theorem w_parted (F d : Nat) (hd : 8 ≤ d) (hF : 10 ≤ F) (hf : isF f) (hs : SdOk f n s) (ht : SdOk f n t) (hn1 : 1 ≤ n) (hn : n ≤ 500) (h0 : nrm f t ≠ 0) (ht0 : t ≠ (0, 0)) (S : Sto) : CF F d 33 [.d (.int f), .d (sd s), .d (sd t)] S = .ok (.d (sd (smul f s (sinv f t)))) S := by
  obtain ⟨d, rfl⟩ : ∃ e, d = e + 1 := ⟨d - 1, by omega⟩
  refine (cf_eq (f := i_surd_parted.fn) rfl rfl).trans ?_
  simp [i_surd_parted, b_surd_parted, Pv.start, w_chk2 F d (by omega) hF hf hs ht (by omega), w_isnoth F d (by omega), ht0, w_by F d (by omega) hf.sz h0 hs.sz ht.sz hn1 (by omega)]
theorem w_compared (F d : Nat) (hd : 7 ≤ d) (hF : 10 ≤ F) (hf : isF f) (hs : SdOk f n s) (ht : SdOk f n t) (hn : n ≤ 500) (S : Sto) : CF F d 34 [.d (.int f), .d (sd s), .d (sd t)] S = .ok (.d (.int (sig f (ssub s t)))) S := by
  obtain ⟨d, rfl⟩ : ∃ e, d = e + 1 := ⟨d - 1, by omega⟩
  refine (cf_eq (f := i_surd_compared.fn) rfl rfl).trans ?_
  simp [i_surd_compared, b_surd_compared, Pv.start, w_chk2 F d (by omega) hF hf hs ht (by omega), w_sless F d (by omega) hs.sz ht.sz (by omega), w_ssign F d (by omega) hf.sz (s2_sub hs.sz ht.sz) (by omega), ssg_sig]
theorem w_rounded (F d : Nat) (hd : 7 ≤ d) (hF : 10 ≤ F) (hf : isF f) (hs : SdOk f n s) (hn : n ≤ 500) (S : Sto) : CF F d 35 [.d (.int f), .d (sd s)] S = .ok (.d (.int (flr f s))) S := by
  obtain ⟨d, rfl⟩ : ∃ e, d = e + 1 := ⟨d - 1, by omega⟩
  refine (cf_eq (f := i_surd_rounded.fn) rfl rfl).trans ?_
  simp [i_surd_rounded, b_surd_rounded, Pv.start, w_chkfield F d (by omega) hF hf, w_chksurd F d (by omega) (hs.sz.mono (show n ≤ 990 by omega)) hs.one, w_floor F d (by omega) (by have := hf.one.1; omega) hf.sz hs.sz (by omega)]
theorem w_normed (F d : Nat) (hd : 7 ≤ d) (hF : 10 ≤ F) (hf : isF f) (hs : SdOk f n s) (hn : n ≤ 500) (S : Sto) : CF F d 37 [.d (.int f), .d (sd s)] S = .ok (.d (.tuple [eq (s.1 + s.1), eq (nrm f s)])) S := by
  obtain ⟨d, rfl⟩ : ∃ e, d = e + 1 := ⟨d - 1, by omega⟩
  refine (cf_eq (f := i_surd_norm.fn) rfl rfl).trans ?_
  simp [i_surd_norm, b_surd_norm, Pv.start, w_chkfield F d (by omega) hF hf, w_chksurd F d (by omega) (hs.sz.mono (show n ≤ 990 by omega)) hs.one, w_added F d (by omega) hs.sz.1 hs.sz.1 (by omega), w_norm F d (by omega) hf.sz hs.sz (by omega)]
theorem w_btw (F d : Nat) (hd : 8 ≤ d) (hF : 8999 ≤ F) (hf : isF f) (hs : SdOk f n s) (ht : SdOk f n t) (h : sig f (ssub s t) < 0) (K : Nat) (hK : 4 * (n + K + 7 + n + 1) + 5 < 8999) (hK2 : 6 * (n + (K + 1)) + 4 < 8999) (hN : lss f s t K) (hJ : ∀ j, j < K → ¬ lss f s t j) (hn : n ≤ 500) (S : Sto) :
    CF F d 36 [.d (.int f), .d (sd s), .d (sd t)] S = .ok (.d (eq (Rat.divInt (Nk f s K) (T2 K)))) S := by
  obtain ⟨d, rfl⟩ : ∃ e, d = e + 1 := ⟨d - 1, by omega⟩
  refine (cf_eq (f := i_surd_between.fn) rfl rfl).trans ?_
  simp [i_surd_between, b_surd_between, Pv.start, w_chk2 F d (by omega) (by omega) hf hs ht (by omega), w_isless F d (by omega) hf.sz hs.sz ht.sz (by omega), h, w_between F d (by omega) hF (by have := hf.one.1; omega) hf.sz hs.sz ht.sz K hK hK2 hN hJ]
end
end K26
set_option Elab.async false
set_option maxRecDepth 100000
set_option linter.unusedVariables false
set_option linter.unusedSimpArgs false
set_option exponentiation.threshold 10000
/-! M11: what lies between is right. -/
namespace K26
open PySem Pv L2
theorem pow_dvd : ∀ {K d : Nat}, d ∣ 2 ^ K → ∃ j, j ≤ K ∧ d = 2 ^ j
  | 0, d, h => ⟨0, Nat.le_refl _, by simpa using h⟩
  | K + 1, d, h => by
    rcases Nat.mod_two_eq_zero_or_one d with c | c
    · have he : d = 2 * (d / 2) := by omega
      generalize d / 2 = e at he
      subst he
      rw [Nat.pow_succ, Nat.mul_comm (2 ^ K)] at h
      obtain ⟨j, hj, rfl⟩ := pow_dvd (Nat.dvd_of_mul_dvd_mul_left (by decide : 0 < 2) h)
      exact ⟨j + 1, by omega, by rw [Nat.pow_succ, Nat.mul_comm]⟩
    · have cp : Nat.Coprime d 2 := by
        rw [Nat.coprime_comm]
        unfold Nat.Coprime
        rw [Nat.gcd_rec, c]
        rfl
      rw [Nat.pow_succ] at h
      obtain ⟨j, hj, rfl⟩ := pow_dvd (cp.dvd_of_dvd_mul_right h)
      exact ⟨j, by omega, rfl⟩
section
variable {s t : Sd} {f : Int} {K : Nat}
abbrev tld (f : Int) (s : Sd) (K : Nat) : Rat := Rat.divInt (Nk f s K) (T2 K)
theorem tld_den (f : Int) (s : Sd) (K : Nat) : (tld f s K).den * Nat.gcd (Nk f s K).natAbs (2 ^ K) = 2 ^ K := by
  unfold tld
  rw [di_den (by have := T2_pos K; omega), T2_abs]
  exact Nat.div_mul_cancel (Nat.gcd_dvd_right _ _)
theorem btw1 (hf : 0 < f) : sig f (ssub s (tld f s K, 0)) < 0 := by
  obtain ⟨L, X, Y, _, _, o, _⟩ := measure s s
  have a := (below_iff hf (o.mul (T2_pos K)) (over_frac (Nk f s K) (T2_pos K) o.pos)).mpr
  apply a
  rw [Int.sub_zero]
  exact (Nk_spec hf o K).2
theorem btw3 (f : Int) (s : Sd) (K : Nat) : ∃ j, j ≤ K ∧ (tld f s K).den = 2 ^ j := pow_dvd ⟨_, (tld_den f s K).symm⟩
theorem btw4 (hf : 0 < f) : ¬ sig f (ssub s (tld f s K - Rat.divInt 1 (tld f s K).den, 0)) < 0 := by
  obtain ⟨L, X, Y, _, _, o, _⟩ := measure s s
  have hd := tld_den f s K
  have g0 : 0 < Nat.gcd (Nk f s K).natAbs (2 ^ K) := Nat.gcd_pos_of_pos_right _ (Nat.two_pow_pos K)
  generalize hg : Nat.gcd (Nk f s K).natAbs (2 ^ K) = g at hd g0
  have dp := den_ne (tld f s K)
  have oq : OverQ (tld f s K - Rat.divInt 1 (tld f s K).den, 0) (L * T2 K) ((Nk f s K - g) * L) 0 := by
    refine ⟨Int.mul_pos o.pos (T2_pos K), ?_, by show (0 : Rat) * _ = ((0 : Int) : Rat); rw [Rat.zero_mul]; rfl⟩
    have e1 := q_div (Nk f s K) (T2 K) (by have := T2_pos K; omega)
    have e2 := q_div 1 ((tld f s K).den : Int) dp
    have e3 : T2 K = (tld f s K).den * (g : Int) := by
      have : ((2 ^ K : Nat) : Int) = T2 K := by unfold T2; push_cast; rfl
      rw [← this, ← hd]; push_cast; rfl
    have e4 : (T2 K : Rat) = (((tld f s K).den : Int) : Rat) * ((g : Int) : Rat) := by rw [e3, Rat.intCast_mul]
    show (tld f s K - Rat.divInt 1 (tld f s K).den) * _ = _
    rw [Rat.intCast_mul, Rat.intCast_mul, Rat.intCast_sub]
    have e1' : tld f s K * (T2 K : Rat) = (Nk f s K : Rat) := e1
    have e5 : Rat.divInt 1 ((tld f s K).den : Int) * (T2 K : Rat) = ((g : Int) : Rat) := by
      rw [e4, ← Rat.mul_assoc, e2]
      have : ((1 : Int) : Rat) = 1 := rfl
      rw [this, Rat.one_mul]
    grind
  rw [below_iff hf (o.mul (T2_pos K)) oq, Int.sub_zero]
  intro z
  apply z
  refine nn_mono hf (Nk_spec hf o K).1 ?_
  have := Int.mul_le_mul_of_nonneg_right (show Nk f s K - g ≤ Nk f s K - 1 by omega) (show 0 ≤ L by have := o.pos; omega)
  omega
theorem divInt_two (a b : Int) : Rat.divInt (2 * a) (2 * b) = Rat.divInt a b := by
  rw [Int.mul_comm 2 a, Int.mul_comm 2 b, Rat.divInt_mul_right (by omega)]
theorem btw5 (hf : 0 < f) (hN : lss f s t K) (hJ : ∀ j, j < K → ¬ lss f s t j) (hd : (tld f s K).den ≠ 1) : ¬ sig f (ssub (Rat.divInt ((tld f s K).num + 1) (tld f s K).den, 0) t) < 0 := by
  obtain ⟨K, rfl⟩ : ∃ k, K = k + 1 := ⟨K - 1, by
    have := tld_den f s K
    rcases Nat.eq_zero_or_pos K with c | c
    · subst c
      exfalso; apply hd
      exact Nat.eq_one_of_mul_eq_one_right this
    · omega⟩
  obtain ⟨L, X, Y, _, _, o, _⟩ := measure s s
  have hj := hJ K (by omega)
  rcases Nk_two hf o K with c | c
  · exfalso
    apply hj
    unfold lss at hN ⊢
    rw [c, T2_succ, divInt_two] at hN
    exact hN
  · have hodd : Nat.gcd (Nk f s (K + 1)).natAbs (2 ^ (K + 1)) = 1 := by
      obtain ⟨j, hj1, hj2⟩ := pow_dvd (Nat.gcd_dvd_right (Nk f s (K + 1)).natAbs (2 ^ (K + 1)))
      rcases Nat.eq_zero_or_pos j with c2 | c2
      · subst c2; simpa using hj2
      · exfalso
        have h2 : 2 ∣ (Nk f s (K + 1)).natAbs := by
          refine Nat.dvd_trans ?_ (Nat.gcd_dvd_left (Nk f s (K + 1)).natAbs (2 ^ (K + 1)))
          rw [hj2]
          obtain ⟨i, rfl⟩ : ∃ i, j = i + 1 := ⟨j - 1, by omega⟩
          exact ⟨2 ^ i, by rw [Nat.pow_succ]; omega⟩
        omega
    have e1 : (tld f s (K + 1)).num = Nk f s (K + 1) := by
      unfold tld
      rw [di_num (by have := T2_pos (K + 1); omega), T2_abs, hodd, Int.sign_eq_one_of_pos (T2_pos _)]
      simp
    have e2 : ((tld f s (K + 1)).den : Int) = T2 (K + 1) := by
      have h := tld_den f s (K + 1)
      rw [hodd, Nat.mul_one] at h
      rw [h]; unfold T2; push_cast; rfl
    rw [e1, e2, c, T2_succ, show 2 * Nk f s K - 1 + 1 = 2 * Nk f s K by omega, divInt_two]
    exact hj
/-- where the search ends, and how soon -/
theorem btw_end (hf : 0 < f) (hf2 : f.natAbs < 2 ^ 4) {n : Nat} (hs : s2 n s) (ht : s2 n t) (h : sig f (ssub s t) < 0) : ∃ K, K ≤ 9 * n + 8 ∧ lss f s t K ∧ ∀ j, j < K → ¬ lss f s t j := by
  obtain ⟨L, X, Y, X', Y', o, o', eL, eX, eX'⟩ := measure s t
  have d1 := nab_cast hs.1.2
  have d2 := nab_cast hs.2.2
  have d3 := nab_cast ht.1.2
  have d4 := nab_cast ht.2.2
  have hL : L.natAbs < 2 ^ (4 * n) := by rw [eL]; exact nab_le (nab_mul (nab_mul d1 d2) (nab_mul d3 d4)) (by omega)
  have hX : X.natAbs < 2 ^ (4 * n) := by rw [eX]; exact nab_le (nab_mul hs.1.1 (nab_mul d2 (nab_mul d3 d4))) (by omega)
  have hX' : X'.natAbs < 2 ^ (4 * n) := by rw [eX']; exact nab_le (nab_mul ht.1.1 (nab_mul d4 (nab_mul d1 d2))) (by omega)
  have hP : (X' - X).natAbs < 2 ^ (4 * n + 1) := nab_sub hX' hX
  have bound : 2 * L * ((X' - X).natAbs + 1) + L + 1 ≤ T2 (9 * n + 8) := by
    have pl : (0 : Int) < L := o.pos
    have e : T2 (9 * n + 8) = ((2 ^ (9 * n + 8) : Nat) : Int) := by unfold T2; push_cast; rfl
    rw [e]
    have p8 : (2 : Nat) ^ (9 * n + 8) ≥ 2 ^ (8 * n + 8) := Nat.pow_le_pow_right (by omega) (by omega)
    have p9 : (2 : Nat) ^ (8 * n + 8) = 2 ^ (4 * n) * 2 ^ (4 * n) * 256 := by rw [← Nat.pow_add, show (256 : Nat) = 2 ^ 8 by rfl, ← Nat.pow_add]; congr 1; omega
    have p1 : (2 : Nat) ^ (4 * n + 1) = 2 ^ (4 * n) * 2 := Nat.pow_succ _ _
    rw [p1] at hP
    have p0 := Nat.two_pow_pos (4 * n)
    rw [p9] at p8
    generalize (2 : Nat) ^ (4 * n) = M at *
    generalize (X' - X).natAbs = P at *
    have hLM : L ≤ (M : Int) := by omega
    have m1 : L * ((P : Int) + 1) ≤ (M : Int) * (2 * M + 1) := Int.mul_le_mul hLM (by omega) (by omega) (by omega)
    have m2 : (M : Int) ≤ M * M := by
      have := Int.mul_le_mul_of_nonneg_right (show (1 : Int) ≤ M by omega) (show (0 : Int) ≤ M by omega)
      omega
    have m3 : (M : Int) * (2 * M + 1) = 2 * (M * M) + M := by grind
    have m4 : 2 * L * ((P : Int) + 1) = 2 * (L * (P + 1)) := by grind
    have p8' : ((M * M * 256 : Nat) : Int) ≤ ((2 ^ (9 * n + 8) : Nat) : Int) := by exact_mod_cast p8
    push_cast at p8' ⊢
    omega
  exact least (P := fun k => lss f s t k) _ (lss_end hf o o' h bound)
end
end K26
set_option Elab.async false
set_option maxRecDepth 100000
set_option linter.unusedVariables false
set_option linter.unusedSimpArgs false
set_option exponentiation.threshold 10000
/-! M12: the law's checks. -/
namespace K26
open PySem Pv L2
theorem int_len {a : Int} {n : Nat} (h : a.natAbs < 2 ^ n) (hn : n ≤ 1900) : (PyData.shown (.int a)).length ≤ 1921 ∧ a.natAbs.log2 < 1920 := by
  have hl := log_of h
  refine ⟨?_, by omega⟩
  have e := int_text_length_le (a := a) (k := 1920) (by decide) (by omega)
  show (Str.ofString (toString a)).length ≤ _
  rw [ofString_length]; omega
theorem eq_len {a : Rat} {n : Nat} (h : sz n a) (hn : n ≤ 1900) : (PyData.shown (eq a)).length ≤ 3900 ∧ PyData.showable (eq a) = true := by
  obtain ⟨h1, h2⟩ := int_len h.1 hn
  obtain ⟨h3, h4⟩ := int_len (nab_cast h.2) hn
  refine ⟨?_, ?_⟩
  · have := tupleText_len_le [PyData.shown (.int a.num), PyData.shown (.int (a.den : Int))]
    show (tupleText [PyData.shown (.int a.num), PyData.shown (.int (a.den : Int))]).length ≤ _
    simp at this
    omega
  · show (decide (a.num.natAbs.log2 < 1920) && (decide ((a.den : Int).natAbs.log2 < 1920) && true)) = true
    simp only [h2, h4, decide_true, Bool.and_true]
theorem rep_pair {a b : Rat} {n m : Nat} (ha : sz n a) (hb : sz m b) (hn : n ≤ 1900) (hm : m ≤ 1900) : reprOk (.tuple [eq a, eq b]) = true := by
  obtain ⟨h1, h2⟩ := eq_len ha hn
  obtain ⟨h3, h4⟩ := eq_len hb hm
  unfold reprOk
  have d : (PyData.tuple [eq a, eq b]).depth ≤ 64 := by
    show max (PyData.depth (eq a)) (max (PyData.depth (eq b)) 0) + 1 ≤ 64
    have : ∀ q, PyData.depth (eq q) = 1 := fun q => rfl
    rw [this, this]; decide
  have s : (PyData.tuple [eq a, eq b]).showable = true := by
    show (PyData.showable (eq a) && (PyData.showable (eq b) && true)) = true
    rw [h2, h4]; rfl
  have l : (PyData.tuple [eq a, eq b]).shown.length ≤ sizeLine := by
    have := tupleText_len_le [PyData.shown (eq a), PyData.shown (eq b)]
    show (tupleText [PyData.shown (eq a), PyData.shown (eq b)]).length ≤ _
    simp at this
    rw [sizeLine_eq]; omega
  rw [s, decide_eq_true d, decide_eq_true l]; rfl
theorem rep_int {a : Int} {n : Nat} (ha : a.natAbs < 2 ^ n) (hn : n ≤ 1900) : reprOk (.int a) = true := by
  obtain ⟨h1, h2⟩ := int_len ha hn
  unfold reprOk
  have d : (PyData.int a).depth ≤ 64 := by show 0 ≤ 64; decide
  have s : (PyData.int a).showable = true := decide_eq_true h2
  have l : (PyData.int a).shown.length ≤ sizeLine := by rw [sizeLine_eq]; omega
  rw [s, decide_eq_true d, decide_eq_true l]; rfl
theorem w_lisint (F d : Nat) (hd : 1 ≤ d) (x : Int) (S : Sto) : CF F d 41 [.d (.int x)] S = .ok (.d (.bool true)) S := by
  obtain ⟨d, rfl⟩ : ∃ e, d = e + 1 := ⟨d - 1, by omega⟩
  refine (cf_eq (f := i_law_is_int.fn) rfl rfl).trans ?_
  simp [i_law_is_int, b_law_is_int, Pv.start]
theorem w_lisfrac (F d : Nat) (hd : 2 ≤ d) (hF : 2 ^ 8999 ≤ F) {a : Rat} {n : Nat} (ha : sz n a) (hn : n < 8999) (S : Sto) : CF F d 42 [.d (eq a)] S = .ok (.d (.bool true)) S := by
  obtain ⟨d, rfl⟩ : ∃ e, d = e + 1 := ⟨d - 1, by omega⟩
  refine (cf_eq (f := i_law_is_fraction.fn) rfl rfl).trans ?_
  have h : (0 : Int) < a.den := by have := a.den_pos; omega
  have h' : 0 < a.den := a.den_pos
  have hl := nab_le (nab_cast ha.2) (show n ≤ 8999 by omega)
  have e := w_lreduced F d (by omega) (t := a.num) (l := a.den) (by omega) hl (fuel_of hl hF)
  rw [Rat.num_divInt_den] at e
  simp [i_law_is_fraction, b_law_is_fraction, Pv.start, w_lisint F d (by omega), lcF, h, h', e, cmp_eq]
theorem w_lissurd (F d : Nat) (hd : 3 ≤ d) (hF : 2 ^ 8999 ≤ F) {f : Int} {s : Sd} {n : Nat} (hs : s2 n s) (hn : n < 8999) (h : 1 < f ∨ s.2 = 0) (S : Sto) : CF F d 43 [.d (.int f), .d (sd s)] S = .ok (.d (.bool true)) S := by
  obtain ⟨d, rfl⟩ : ∃ e, d = e + 1 := ⟨d - 1, by omega⟩
  refine (cf_eq (f := i_law_is_surd.fn) rfl rfl).trans ?_
  have e1 := w_lisfrac F d (by omega) hF hs.1 hn
  have e2 := w_lisfrac F d (by omega) hF hs.2 hn
  have e0 := w_lisfrac F d (by omega) hF (sz_0 (n := 1) (by omega)) (by omega)
  by_cases hf : 1 < f
  · simp [i_law_is_surd, b_law_is_surd, Pv.start, e1, e2, lcF, hf]
  · have h : s.2 = 0 := h.resolve_left hf
    simp [i_law_is_surd, b_law_is_surd, Pv.start, e1, e0, lcF, hf, eq_0, cmp_eq, h]
theorem half_loop (c : Nat → List A → Sto → R A) (F0 : Nat) (u v w x : Option A) (S : Sto) (y : Option A) : ∀ (j fuel : Nat), j < fuel →
    whlGo (tstF ⟨c, F0⟩ (.cmp .eq (.bin .mod (.v 4) (.k (.int 2))) (.k (.int 0)))) (bodyF ⟨c, F0⟩ (.cons (.set 4 (.bin .fdiv (.v 4) (.k (.int 2)))) .nil)) fuel [u, v, w, x, some (.d (.int (T2 j))), y] S = .ok (.nx [u, v, w, x, some (.d (.int 1)), y]) S := by
  intro j
  induction j with
  | zero =>
    intro fuel hf
    obtain ⟨fuel, rfl⟩ : ∃ e, fuel = e + 1 := ⟨fuel - 1, by omega⟩
    have e : T2 0 = 1 := rfl
    rw [e]
    exact whl_off (S1 := S) (by simp [tstF])
  | succ j ih =>
    intro fuel hf
    obtain ⟨fuel, rfl⟩ : ∃ e, fuel = e + 1 := ⟨fuel - 1, by omega⟩
    have h1 : (T2 (j + 1)).fmod 2 = 0 := by rw [T2_succ, Int.mul_comm, Int.mul_fmod_left]
    have h2 : (T2 (j + 1)).fdiv 2 = T2 j := by rw [T2_succ, Int.mul_fdiv_cancel_left _ (by omega)]
    have d2 : divOk 2 = true := by decide
    rw [whl_on (S1 := S) (S2 := S) (σ' := [u, v, w, x, some (.d (.int (T2 j))), y]) (by simp [tstF, h1]) (by simp [bodyF, d2, h2])]
    exact ih fuel (by omega)
theorem eq_inv (q : Rat) : fr 1 q.den = eq (Rat.divInt 1 q.den) := by
  have h := den_ne q
  unfold fr eq
  have e1 : (Rat.divInt 1 (q.den : Int)).num = 1 := by
    rw [di_num h, Int.sign_eq_one_of_pos (by have := q.den_pos; omega)]
    simp
  have e2 : (Rat.divInt 1 (q.den : Int)).den = q.den := by
    rw [di_den h]; simp
  rw [e1, e2]
theorem fr01 : fr 0 1 = eq 0 := eq_0
theorem w_btwright (F d : Nat) (hd : 9 ≤ d) (hF : 2 ^ 8999 ≤ F) {f : Int} {s t : Sd} {n : Nat} (hf : isF f) (hs : SdOk f n s) (ht : SdOk f n t) (hn1 : 1 ≤ n) (hn : n ≤ 100) (h : sig f (ssub s t) < 0) (S : Sto) : CF F d 60 [.d (.int f), .d (sd s), .d (sd t)] S = .ok (.d (.bool true)) S := by
  obtain ⟨d, rfl⟩ : ∃ e, d = e + 1 := ⟨d - 1, by omega⟩
  refine (cf_eq (f := i_law_is_between_right.fn) rfl rfl).trans ?_
  have hf0 : 0 < f := by have := hf.one.1; omega
  have hF9 : 8999 ≤ F := Nat.le_trans (by decide +kernel) hF
  obtain ⟨K, hK, hN, hJ⟩ := btw_end hf0 hf.sz hs.sz ht.sz h
  have e1 := w_btw F d (by omega) hF9 hf hs ht h K (by omega) (by omega) hN hJ (by omega)
  have zq : sz (n + K + 7) (tld f s K) := di_sz (by have := T2_pos K; omega) (Nk_bd hf0 hf.sz hs.sz K) (nab_le (T2_sz K) (by omega))
  have e2 := w_lisfrac F d (by omega) hF zq (by omega)
  have zs : s2 (n + K + 7) ((tld f s K, 0) : Sd) := ⟨zq, sz_0 (by omega)⟩
  have e3 := w_lisbelow F d (by omega) hF hf.sz hs.sz zs (by omega)
  have e4 := w_lisbelow F d (by omega) hF hf.sz zs ht.sz (by omega)
  have b1 : sig f (ssub s (tld f s K, 0)) < 0 := btw1 hf0
  have b2 : sig f (ssub (tld f s K, 0) t) < 0 := hN
  obtain ⟨j, hj, b3⟩ := btw3 f s K
  have b4 := btw4 (s := s) (K := K) hf0
  have b5 := btw5 hf0 hN hJ
  have zi : sz (n + K + 7) (Rat.divInt 1 (tld f s K).den) := by
    have e := eq_inv (tld f s K)
    unfold fr eq at e
    simp only [PyData.tuple.injEq, List.cons.injEq, PyData.int.injEq, and_true] at e
    refine ⟨?_, ?_⟩
    · rw [← e.1]
      have : (2 : Nat) ^ 1 ≤ 2 ^ (n + K + 7) := Nat.pow_le_pow_right (by omega) (by omega)
      show 1 < _; omega
    · have := zq.2
      omega
  have e5 := w_lless F d (by omega) hF zq zi (by omega)
  have zd := sz_sub zq zi
  have e6 := w_lisbelow F d (by omega) hF hf.sz hs.sz (t := (tld f s K - Rat.divInt 1 (tld f s K).den, 0)) (m := 2 * (n + K + 7) + 1) ⟨zd.mono (by omega), sz_0 (by omega)⟩ (by omega)
  have e7 := w_lreduced F d (by omega) (t := (tld f s K).num + 1) (l := (tld f s K).den) (den_ne _) (nab_le (nab_cast zq.2) (by omega)) (fuel_of (nab_cast zq.2) (Nat.le_trans (Nat.pow_le_pow_right (by omega) (by omega)) hF))
  have zm : sz (n + K + 8) (Rat.divInt ((tld f s K).num + 1) (tld f s K).den) := by
    refine di_sz (den_ne _) ?_ (nab_le (nab_cast zq.2) (by omega))
    exact nab_add zq.1 (by
      have : (2 : Nat) ^ 1 ≤ 2 ^ (n + K + 7) := Nat.pow_le_pow_right (by omega) (by omega)
      show 1 < _; omega)
  have e8 := w_lisbelow F d (by omega) hF hf.sz (s := (Rat.divInt ((tld f s K).num + 1) (tld f s K).den, 0)) (n := n + K + 8) ⟨zm, sz_0 (by omega)⟩ ht.sz (by omega)
  have hden : ((tld f s K).den : Int) = T2 j := by rw [b3]; unfold T2; push_cast; rfl
  have loop : ∀ u v w x y, whlGo (tstF ⟨callF (tabT ds) F d, F⟩ (.cmp .eq (.bin .mod (.v 4) (.k (.int 2))) (.k (.int 0)))) (bodyF ⟨callF (tabT ds) F d, F⟩ (.cons (.set 4 (.bin .fdiv (.v 4) (.k (.int 2)))) .nil)) F [u, v, w, x, some (.d (.int (tld f s K).den)), y] S = .ok (.nx [u, v, w, x, some (.d (.int 1)), y]) S := fun u v w x y => by
    rw [hden]; exact half_loop (callF (tabT ds) F d) F u v w x S y j F (by omega)
  have e1' : CF F d 36 [.d (.int f), .d (sd s), .d (sd t)] S = .ok (.d (eq (tld f s K))) S := e1 S
  have inv := eq_inv (tld f s K)
  clear e1 hden b3 zi zm zd zs zq hN hJ
  generalize tld f s K = q at *
  generalize Rat.divInt 1 (q.den : Int) = iq at *
  generalize Rat.divInt (q.num + 1) (q.den : Int) = mq at *
  simp only [i_law_is_between_right, b_law_is_between_right, Pv.start]
  by_cases c : q.den = 1
  · have c' : (q.den : Int) = 1 := by omega
    simp [e1', e2, fr_tup, fr01, sd_tup, e3, e4, b1, b2, loop, inv, e5, e6, b4]
    simp [c]
  · have c' : ¬ (q.den : Int) = 1 := by omega
    have b5' := b5 c
    simp [e1', e2, fr_tup, fr01, sd_tup, e3, e4, b1, b2, loop, inv, e5, e6, b4, c, c', e7, e8, b5']
end K26
set_option Elab.async false
set_option maxRecDepth 100000
set_option linter.unusedVariables false
set_option linter.unusedSimpArgs false
set_option exponentiation.threshold 10000
/-! M13: what the law draws. -/
namespace K26
open PySem Pv L2
theorem rd_ref {S : Sto} {r : Nat} {xs : List PyData} (h : S[r]? = some (.lst xs)) : rd S (.ref r) = some (.list xs) := by simp [rd, h]
/-- the pot at r, of which n draws at most have been made -/
def PotN (r n : Nat) (S : Sto) : Prop := ∃ a b c : Int, S[r]? = some (.lst [.int a, .int b, .int c]) ∧ 0 ≤ a ∧ a.natAbs < 2 ^ 1000 ∧ 0 ≤ b ∧ b.natAbs < 2 ^ 62 ∧ 0 ≤ c ∧ c ≤ n
theorem primes (m : Int) (h0 : 0 ≤ m) (h5 : m < 5) : ∃ p : Int, atI [PyData.int 2147483647, .int 2147483629, .int 2147483587, .int 2147483579, .int 2147483563] m = some (.int p) ∧ 0 < p ∧ p.natAbs < 2 ^ 31 := by
  obtain ⟨k, rfl⟩ : ∃ k : Nat, m = k := ⟨m.toNat, by omega⟩
  rw [Pv.atN]
  match k, h5 with
  | 0, _ => exact ⟨_, rfl, by decide, by decide⟩
  | 1, _ => exact ⟨_, rfl, by decide, by decide⟩
  | 2, _ => exact ⟨_, rfl, by decide, by decide⟩
  | 3, _ => exact ⟨_, rfl, by decide, by decide⟩
  | 4, _ => exact ⟨_, rfl, by decide, by decide⟩
  | k + 5, h => omega
theorem fmod_nn (x : Int) {u : Int} (hu : 0 < u) : 0 ≤ x.fmod u ∧ x.fmod u < u := ⟨Int.fmod_nonneg_of_pos _ hu, Int.fmod_lt_of_pos _ hu⟩
theorem w_take (F d : Nat) (hd : 1 ≤ d) {r n : Nat} {S : Sto} (hp : PotN r n S) (hn : n < 2 ^ 40) {u : Int} (hu : 0 < u) (hu2 : u.natAbs < 2 ^ 30) :
    ∃ x S', CF F d 54 [.ref r, .d (.int u)] S = .ok (.d (.int x)) S' ∧ 0 ≤ x ∧ x < u ∧ PotN r (n + 1) S' ∧ S'.length = S.length := by
  obtain ⟨d, rfl⟩ : ∃ e, d = e + 1 := ⟨d - 1, by omega⟩
  obtain ⟨a, b, c, hS, a0, a1, b0, b1, c0, c1⟩ := hp
  have hr : r < S.length := (List.getElem?_eq_some_iff.mp hS).1
  have u0 : ¬ u = 0 := by omega
  have du : divOk u = true := div_ok (m := 30) u0 hu2 (by omega)
  by_cases ha : 0 < a
  · refine ⟨a.fmod u, S.set r (.lst [.int (a.fdiv u), .int b, .int c]), ?_, (fmod_nn a hu).1, (fmod_nn a hu).2, ⟨a.fdiv u, b, c, by simp [hr], ?_, ?_, b0, b1, c0, by omega⟩, by simp⟩
    · refine (cf_eq (f := i_law_take.fn) rfl rfl).trans ?_
      have t1 : (S.set r (.lst [.int (a.fdiv u), .int b, .int c])).take S.length = S.set r (.lst [.int (a.fdiv u), .int b, .int c]) := List.take_of_length_le (by simp)
      simp [i_law_take, b_law_take, Pv.start, rd_ref hS, ha, u0, du, hS, ixN, t1]
    · rw [Int.fdiv_eq_ediv_of_nonneg _ (by omega)]; exact Int.ediv_nonneg a0 (by omega)
    · rw [Int.fdiv_eq_ediv_of_nonneg _ (by omega)]
      exact Nat.lt_of_le_of_lt (Int.natAbs_ediv_le_natAbs _ _) a1
  · obtain ⟨p, hp1, hp2, hp3⟩ := primes ((c + 1).fmod 5) (fmod_nn _ (by omega)).1 (fmod_nn _ (by omega)).2
    have p0 : ¬ p = 0 := by omega
    have cz : (c + 1).natAbs < 2 ^ 41 := by omega
    have m1 : mulOk 180778 (c + 1) = true := mul_ok (n := 18) (by decide) cz (by omega)
    have z1 : (180778 * (c + 1)).natAbs < 2 ^ (18 + 41) := nab_mul (n := 18) (by decide) cz
    have m2 : mulOk (180778 * (c + 1)) (c + 1) = true := mul_ok z1 cz (by omega)
    have z2 := nab_mul z1 cz
    generalize hX : b + 180778 * (c + 1) * (c + 1) + 61151 = X at *
    have z3 : X.natAbs < 2 ^ 102 := by
      have h1 := nab_add (n := 100) (nab_le b1 (by omega)) z2
      have h2 := nab_add (n := 101) h1 (y := 61151) (by decide)
      rw [hX] at h2; exact h2
    have pw : powOk X 3 = true := by
      unfold powOk
      have := log_of z3
      have e : Builtin.Int.intBits X ≤ 200 := by
        unfold Builtin.Int.intBits
        first | omega | (split <;> omega)
      simp only [Bool.and_eq_true, decide_eq_true_eq]
      omega
    generalize hB : (X ^ (3 : Int).toNat).fmod p = B at *
    have hB1 := fmod_nn (X ^ (3 : Int).toNat) hp2
    rw [hB] at hB1
    have Bz : B.natAbs < 2 ^ 31 := by omega
    have m3 : mulOk 94 (c + 1) = true := mul_ok (n := 7) (by decide) cz (by omega)
    have z4 : (94 * (c + 1)).natAbs < 2 ^ (7 + 41) := nab_mul (n := 7) (by decide) cz
    have hD := fmod_nn B (show (0 : Int) < 122966 by omega)
    have m4 : mulOk B (B.fmod 122966 + 94 * (c + 1)) = true := mul_ok Bz (nab_add (n := 48) (by omega) z4) (by omega)
    have d128 : divOk 128 = true := by decide
    let Y := ((B * (B.fmod 122966 + 94 * (c + 1))).fmod 2305843009213693907).fdiv 128
    refine ⟨Y.fmod u, S.set r (.lst [.int a, .int b, .int (c + 1)]), ?_, (fmod_nn Y hu).1, (fmod_nn Y hu).2, ⟨a, b, c + 1, by simp [hr], a0, a1, b0, b1, by omega, by omega⟩, by simp⟩
    refine (cf_eq (f := i_law_take.fn) rfl rfl).trans ?_
    have t1 : (S.set r (.lst [.int a, .int b, .int (c + 1)])).take S.length = S.set r (.lst [.int a, .int b, .int (c + 1)]) := List.take_of_length_le (by simp)
    have hS' : (S.set r (.lst [.int a, .int b, .int (c + 1)]))[r]? = some (.lst [.int a, .int b, .int (c + 1)]) := by simp [hr]
    have hq : ¬ ((c + 1).fmod 5 < 0) := by have := (fmod_nn (c + 1) (show (0 : Int) < 5 by omega)).1; omega
    simp [i_law_take, b_law_take, Pv.start, rd_ref hS, ha, hS, ixN]
    simp [rd_ref hS', hp1, m1, m2, hX, pw, p0, u0, d128, m3, t1]
    rw [show X ^ 3 = X ^ (3 : Int).toNat from rfl, hB]
    simp [m3, m4, d128, u0, t1]
    rfl
end K26
set_option Elab.async false
set_option maxRecDepth 100000
set_option linter.unusedVariables false
set_option linter.unusedSimpArgs false
set_option exponentiation.threshold 10000
/-! M14: the law's input. -/
namespace K26
open PySem Pv L2
theorem take_of {S S' : Sto} (h : S'.length = S.length) : S'.take S.length = S' := List.take_of_length_le (by omega)
/-- a draw's word: the def, its extra argument, what it hands back -/
def Drw (F d k : Nat) (r n m : Nat) (S : Sto) (xs : List A) (P : PyData → Prop) : Prop := ∃ y S', CF F d k (.ref r :: xs) S = .ok (.d y) S' ∧ P y ∧ PotN r (n + m) S' ∧ S'.length = S.length
theorem w_of (F d : Nat) (hd : 2 ≤ d) {r n : Nat} {S : Sto} (hp : PotN r n S) (hn : n < 2 ^ 40) {xs : List PyData} (h0 : 0 < xs.length) (h1 : xs.length < 1000) : Drw F d 53 r n 1 S [.d (.list xs)] fun y => y ∈ xs := by
  obtain ⟨d, rfl⟩ : ∃ e, d = e + 1 := ⟨d - 1, by omega⟩
  obtain ⟨x, S1, e1, x0, x1, p1, l1⟩ := w_take F d (by omega) hp hn (u := (xs.length : Int)) (by omega) (by omega)
  obtain ⟨i, rfl⟩ : ∃ i : Nat, x = i := ⟨x.toNat, by omega⟩
  have hi : i < xs.length := by omega
  have e2 : atI xs (i : Int) = some xs[i] := by rw [atN, List.getElem?_eq_getElem hi]
  refine ⟨xs[i], S1, ?_, List.getElem_mem hi, p1, l1⟩
  refine (cf_eq (f := i_law_of.fn) rfl rfl).trans ?_
  simp [i_law_of, b_law_of, Pv.start, e1, e2, take_of l1]
theorem w_number (F d : Nat) (hd : 3 ≤ d) (hF : 2 ^ 8999 ≤ F) {r n : Nat} {S : Sto} (hp : PotN r n S) (hn : n + 2 < 2 ^ 40) : Drw F d 56 r n 2 S [] fun y => ∃ q, y = eq q ∧ sz 4 q := by
  obtain ⟨d, rfl⟩ : ∃ e, d = e + 1 := ⟨d - 1, by omega⟩
  obtain ⟨x, S1, e1, x0, x1, p1, l1⟩ := w_take F d (by omega) hp (by omega) (u := 13) (by omega) (by decide)
  obtain ⟨y, S2, e2, hy, p2, l2⟩ := w_of F d (by omega) p1 (by omega) (xs := [.int 1, .int 1, .int 1, .int 2, .int 3]) (by decide) (by decide)
  obtain ⟨l, rfl, l0, l3⟩ : ∃ l : Int, y = .int l ∧ 0 < l ∧ l ≤ 3 := by
    simp only [List.mem_cons, List.not_mem_nil, or_false] at hy
    rcases hy with rfl | rfl | rfl | rfl | rfl <;> exact ⟨_, rfl, by omega, by omega⟩
  have lz : l.natAbs < 2 ^ 8999 := nab_le (n := 4) (by omega) (by omega)
  have e3 := w_lreduced F d (by omega) (t := x - 6) (l := l) (by omega) lz (fuel_of lz hF) S2
  refine ⟨_, S2, ?_, ⟨Rat.divInt (x - 6) l, rfl, di_sz (by omega) (by omega) (by omega)⟩, p2, by omega⟩
  refine (cf_eq (f := i_law_number.fn) rfl rfl).trans ?_
  simp [i_law_number, b_law_number, Pv.start, e1, e2, e3, take_of (show S2.length = S.length by omega)]
theorem w_surd (F d : Nat) (hd : 4 ≤ d) (hF : 2 ^ 8999 ≤ F) {r n : Nat} {S : Sto} (hp : PotN r n S) (hn : n + 4 < 2 ^ 40) (f : Int) : Drw F d 57 r n 4 S [.d (.int f)] fun y => ∃ s, y = sd s ∧ SdOk f 4 s := by
  obtain ⟨d, rfl⟩ : ∃ e, d = e + 1 := ⟨d - 1, by omega⟩
  obtain ⟨y1, S1, e1, ⟨q1, rfl, z1⟩, p1, l1⟩ := w_number F d (by omega) hF hp (by omega)
  by_cases hf : 1 < f
  · obtain ⟨y2, S2, e2, ⟨q2, rfl, z2⟩, p2, l2⟩ := w_number F d (by omega) hF p1 (by omega)
    refine ⟨_, S2, ?_, ⟨(q1, q2), rfl, ⟨z1, z2⟩, .inl hf⟩, p2, by omega⟩
    refine (cf_eq (f := i_law_surd.fn) rfl rfl).trans ?_
    simp [i_law_surd, b_law_surd, Pv.start, e1, hf, e2, take_of (show S2.length = S.length by omega)]
    rfl
  · refine ⟨_, S1, ?_, ⟨(q1, 0), rfl, ⟨z1, sz_0 (by omega)⟩, .inr rfl⟩, ?_, by omega⟩
    · refine (cf_eq (f := i_law_surd.fn) rfl rfl).trans ?_
      simp [i_law_surd, b_law_surd, Pv.start, e1, hf, eq_0, take_of (show S1.length = S.length by omega)]
      rfl
    · obtain ⟨a, b, c, h1, h2, h3, h4, h5, h6, h7⟩ := p1
      exact ⟨a, b, c, h1, h2, h3, h4, h5, h6, by omega⟩
theorem w_field (F d : Nat) (hd : 3 ≤ d) {r n : Nat} {S : Sto} (hp : PotN r n S) (hn : n + 2 < 2 ^ 40) : Drw F d 47 r n 1 S [] fun y => ∃ f, y = .int f ∧ isF f := by
  obtain ⟨d, rfl⟩ : ∃ e, d = e + 1 := ⟨d - 1, by omega⟩
  obtain ⟨y, S2, e2, hy, p2, l2⟩ := w_of F d (by omega) hp (by omega) (xs := [.int 1, .int 2, .int 3, .int 5, .int 5, .int 6, .int 7, .int 10, .int 13]) (by decide) (by decide)
  obtain ⟨f, rfl, hf⟩ : ∃ f : Int, y = .int f ∧ isF f := by
    simp only [List.mem_cons, List.not_mem_nil, or_false] at hy
    rcases hy with rfl | rfl | rfl | rfl | rfl | rfl | rfl | rfl | rfl <;> exact ⟨_, rfl, by unfold isF; omega⟩
  refine ⟨.int f, S2, ?_, ⟨f, rfl, hf⟩, p2, by omega⟩
  refine (cf_eq (f := i_law_field.fn) rfl rfl).trans ?_
  simp [i_law_field, b_law_field, Pv.start, e2, take_of (show S2.length = S.length by omega)]
/-! ### powers -/
theorem s2_int {x y : Int} {n : Nat} (hx : x.natAbs < 2 ^ n) (hy : y.natAbs < 2 ^ n) (hn : 1 ≤ n) : s2 n ((x : Rat), (y : Rat)) := ⟨sz_int hx hn, sz_int hy hn⟩
theorem pow_loop (F d : Nat) (hd : 3 ≤ d) (hF : 2 ^ 8999 ≤ F) {f p0 p1 : Int} (hf : isF f) (h0 : p0.natAbs ≤ 18) (h1 : p1.natAbs ≤ 5) (k : PyData) (S : Sto) : ∀ (l : List PyData) (j : Nat) (x y : Int) (v : Option A), x.natAbs < 2 ^ (7 * j + 1) → y.natAbs < 2 ^ (7 * j + 1) → j + l.length ≤ 14 →
    ∃ (x' y' : Int) (v' : Option A), forGo (fun _ => true) (forF ⟨callF (tabT ds) F d, F⟩ (.n 4) (.cons (.set 3 (.call 49 (.cons (.v 0) (.cons (.v 3) (.cons (.v 1) .nil))))) .nil)) l [some (.d (.int f)), some (.d (sd ((p0 : Rat), (p1 : Rat)))), some (.d k), some (.d (sd ((x : Rat), (y : Rat)))), v] S =
      .ok (.nx [some (.d (.int f)), some (.d (sd ((p0 : Rat), (p1 : Rat)))), some (.d k), some (.d (sd ((x' : Rat), (y' : Rat)))), v']) S ∧ x'.natAbs < 2 ^ 99 ∧ y'.natAbs < 2 ^ 99 := by
  intro l
  induction l with
  | nil =>
    intro j x y v hx hy hl
    have hj : 7 * j + 1 ≤ 99 := by simp at hl; omega
    exact ⟨x, y, v, by simp [forGo], nab_le hx hj, nab_le hy hj⟩
  | cons z l ih =>
    intro j x y v hx hy hl
    simp only [List.length_cons] at hl
    have e1 := w_lstimes F d (by omega) hF hf.sz (s2_int hx hy (by omega)) (s2_int (n := 5) (x := p0) (y := p1) (by omega) (by omega) (by omega)) (by omega) S
    have e2 : smul f ((x : Rat), (y : Rat)) ((p0 : Rat), (p1 : Rat)) = (((x * p0 + y * p1 * f : Int) : Rat), ((x * p1 + y * p0 : Int) : Rat)) := by
      unfold smul
      simp only [Rat.intCast_add, Rat.intCast_mul]
    rw [e2] at e1
    have f13 : f.natAbs ≤ 13 := by have := hf.one; omega
    have bx : ∀ a b : Int, a.natAbs ≤ 18 → b.natAbs ≤ 65 → (x * a + y * b).natAbs < 2 ^ (7 * (j + 1) + 1) := fun a b ha hb => by
      have q1 : (x * a).natAbs ≤ 2 ^ (7 * j + 1) * 18 := by rw [Int.natAbs_mul]; exact Nat.mul_le_mul (by omega) ha
      have q2 : (y * b).natAbs ≤ 2 ^ (7 * j + 1) * 65 := by rw [Int.natAbs_mul]; exact Nat.mul_le_mul (by omega) hb
      have q3 := Int.natAbs_add_le (x * a) (y * b)
      have q4 : (2 : Nat) ^ (7 * (j + 1) + 1) = 2 ^ (7 * j + 1) * 128 := by rw [show 7 * (j + 1) + 1 = 7 * j + 1 + 7 by omega, Nat.pow_add]
      have q5 := Nat.two_pow_pos (7 * j + 1)
      rw [q4]
      omega
    have n1 := bx p0 (p1 * f) h0 (by rw [Int.natAbs_mul]; exact Nat.le_trans (Nat.mul_le_mul h1 f13) (by decide))
    rw [← Int.mul_assoc] at n1
    have n2 := bx p1 p0 (by omega) (by omega)
    obtain ⟨x', y', v', g1, g2, g3⟩ := ih (j + 1) _ _ (some (.d z)) n1 n2 (by omega)
    refine ⟨x', y', v', ?_, g2, g3⟩
    rw [← g1]
    simp [forGo, forF, e1]
theorem w_power (F d : Nat) (hd : 4 ≤ d) (hF : 2 ^ 8999 ≤ F) {f p0 p1 : Int} (hf : isF f) (h0 : p0.natAbs ≤ 18) (h1 : p1.natAbs ≤ 5) (k : Nat) (hk : k ≤ 14) (S : Sto) : ∃ x y : Int, CF F d 50 [.d (.int f), .d (sd ((p0 : Rat), (p1 : Rat))), .d (.int (k : Int))] S = .ok (.d (sd ((x : Rat), (y : Rat)))) S ∧ x.natAbs < 2 ^ 99 ∧ y.natAbs < 2 ^ 99 := by
  obtain ⟨d, rfl⟩ : ∃ e, d = e + 1 := ⟨d - 1, by omega⟩
  obtain ⟨x, y, v, g1, g2, g3⟩ := pow_loop F d (by omega) hF hf h0 h1 (.int (k : Int)) S (rngD k) 0 1 0 none (by decide) (by decide) (by rw [rngD_len]; omega)
  refine ⟨x, y, ?_, g2, g3⟩
  refine (cf_eq (f := i_law_s_power.fn) rfl rfl).trans ?_
  have s1 : PyData.tuple [.tuple [.int 1, .int 1], .tuple [.int 0, .int 1]] = sd (((1 : Int) : Rat), ((0 : Int) : Rat)) := rfl
  simp only [i_law_s_power, b_law_s_power, Pv.start]
  simp [s1]
  rw [if_pos (by omega)]
  have g1' := g1
  simp at g1'
  rw [g1']
  simp
end K26
set_option Elab.async false
set_option maxRecDepth 100000
set_option linter.unusedVariables false
set_option linter.unusedSimpArgs false
set_option exponentiation.threshold 10000
/-! M15: pairs, pots, norms. -/
namespace K26
open PySem Pv L2
/-! ### no norm is nothing -/
theorem irr {f : Int} (hf : isF f) (h1 : 1 < f) (x : Rat) : x * x ≠ (f : Rat) := by
  intro h
  have e := mul_den x
  have e2 : ((x.num * x.num : Int) : Rat) = ((f * (x.den * x.den) : Int) : Rat) := by
    rw [Rat.intCast_mul, Rat.intCast_mul, Rat.intCast_mul, ← e, ← h]; grind
  have e3 := Rat.intCast_inj.mp e2
  have e4 : x.num.natAbs * x.num.natAbs = f.natAbs * (x.den * x.den) := by
    have := congrArg Int.natAbs e3
    rw [Int.natAbs_mul, Int.natAbs_mul, Int.natAbs_mul, Int.natAbs_natCast] at this
    exact this
  have cp : Nat.Coprime x.den x.num.natAbs := Nat.coprime_comm.mp x.reduced
  have dv : x.den ∣ x.num.natAbs * x.num.natAbs := ⟨f.natAbs * x.den, by rw [e4]; grind⟩
  have d2 : x.den ∣ x.num.natAbs := cp.dvd_of_dvd_mul_left dv
  have d1 : x.den = 1 := Nat.Coprime.eq_one_of_dvd cp d2
  simp only [d1, Nat.mul_one] at e4
  have b4 : x.num.natAbs < 4 := by
    rcases Nat.lt_or_ge x.num.natAbs 4 with c | c
    · exact c
    · have := Nat.mul_le_mul c c
      have := hf.one
      omega
  generalize x.num.natAbs = k at *
  rcases hf with rfl | rfl | rfl | rfl | rfl | rfl | rfl | rfl <;> (match k, b4 with
    | 0, _ => simp at e4
    | 1, _ => simp at e4 h1
    | 2, _ => simp at e4
    | 3, _ => simp at e4)
theorem nrm_ne {f : Int} {t : Sd} (hf : isF f) (h : 1 < f ∨ t.2 = 0) (h0 : t ≠ (0, 0)) : nrm f t ≠ 0 := by
  intro z
  unfold nrm at z
  by_cases hb : t.2 = 0
  · rw [hb] at z
    apply h0
    have : t.1 = 0 := by grind
    exact Prod.ext this hb
  · have h1 : 1 < f := h.resolve_right hb
    refine irr hf h1 (t.1 / t.2) ?_
    grind
/-! ### pairs -/
theorem eq_inv1 {v : Int} (hv : 0 < v) : fr 1 v = eq (Rat.divInt 1 v) ∧ sz 1 (Rat.divInt 1 1) := by
  refine ⟨?_, by decide, by decide⟩
  unfold fr eq
  have e1 : (Rat.divInt 1 v).num = 1 := by
    rw [di_num (by omega), Int.sign_eq_one_of_pos hv]
    simp
  have e2 : ((Rat.divInt 1 v).den : Int) = v := by
    rw [di_den (by omega)]; simp; omega
  rw [e1, e2]
theorem part_of {f : Int} (hf : isF f) (h1 : 1 < f) : ∃ p0 p1 : Int, List.lookup f ([2, 3, 5, 6, 7, 10, 13].zip [PyData.tuple [.int (-1), .int 1], .tuple [.int 2, .int (-1)], .tuple [.int (-2), .int 1], .tuple [.int 5, .int (-2)], .tuple [.int 8, .int (-3)], .tuple [.int (-3), .int 1], .tuple [.int 18, .int (-5)]]) = some (.tuple [.int p0, .int p1]) ∧ p0.natAbs ≤ 18 ∧ p1.natAbs ≤ 5 := by
  rcases hf with rfl | rfl | rfl | rfl | rfl | rfl | rfl | rfl
  · omega
  all_goals exact ⟨_, _, rfl, by decide, by decide⟩
theorem SdOk.mono {f : Int} {n m : Nat} {s : Sd} (h : SdOk f n s) (l : n ≤ m) : SdOk f m s := ⟨h.sz.mono l, h.one⟩
theorem PotN.mono {r n m : Nat} {S : Sto} (h : PotN r n S) (l : n ≤ m) : PotN r m S := by
  obtain ⟨a, b, c, h1, h2, h3, h4, h5, h6, h7⟩ := h
  exact ⟨a, b, c, h1, h2, h3, h4, h5, h6, by omega⟩
theorem w_pair (F d : Nat) (hd : 5 ≤ d) (hF : 2 ^ 8999 ≤ F) {r n : Nat} {S : Sto} (hp : PotN r n S) (hn : n + 20 < 2 ^ 40) {f : Int} (hf : isF f) : Drw F d 58 r n 10 S [.d (.int f)] fun y => ∃ s t, y = .tuple [sd s, sd t] ∧ SdOk f 100 s ∧ SdOk f 100 t := by
  obtain ⟨d, rfl⟩ : ∃ e, d = e + 1 := ⟨d - 1, by omega⟩
  obtain ⟨y1, S1, e1, ⟨s, rfl, z1⟩, p1, l1⟩ := w_surd F d (by omega) hF hp (by omega) f
  obtain ⟨y2, S2, e2, ⟨t, rfl, z2⟩, p2, l2⟩ := w_surd F d (by omega) hF p1 (by omega) f
  obtain ⟨w, S3, e3, w0, w1, p3, l3⟩ := w_take F d (by omega) p2 (by omega) (u := 4) (by omega) (by decide)
  have hw : w = 0 ∨ w = 1 ∨ w = 2 ∨ w = 3 := by omega
  have zs := z1.mono (show 4 ≤ 100 by omega)
  have zt := z2.mono (show 4 ≤ 100 by omega)
  rcases hw with rfl | rfl | rfl | rfl
  · obtain ⟨x, S4, e4, x0, x1, p4, l4⟩ := w_take F d (by omega) p3 (by omega) (u := 1000000) (by omega) (by decide)
    have v0 : 0 < 1 + x := by omega
    have ei := (eq_inv1 v0).1
    have zi : sz 21 (Rat.divInt 1 (1 + x)) := di_sz (by omega) (by decide) (by omega)
    have e5 := w_lsplus F d (by omega) hF z1.sz (t := (Rat.divInt 1 (1 + x), 0)) ⟨zi, sz_0 (by omega)⟩ (by omega) S4
    have pw : powOk 10 6 = true := by decide
    refine ⟨_, S4, ?_, ⟨s, sadd s (Rat.divInt 1 (1 + x), 0), rfl, zs, ⟨(s2_add z1.sz ⟨zi, sz_0 (by omega)⟩).mono (by omega), z1.one.imp id fun z => ?_⟩⟩, p4.mono (by omega), by omega⟩
    · refine (cf_eq (f := i_law_pair.fn) rfl rfl).trans ?_
      generalize Rat.divInt 1 (1 + x) = iq at *
      simp only [i_law_pair, b_law_pair, Pv.start]
      simp [e1, e2, e3, pw, e4, fr_tup, fr01, ei, sd_tup, e5, take_of (show S4.length = S.length by omega)]
    · show s.2 + 0 = 0
      rw [z]; exact Rat.zero_add 0
  · by_cases h1 : 1 < f
    · obtain ⟨x, S4, e4, x0, x1, p4, l4⟩ := w_take F d (by omega) p3 (by omega) (u := 12) (by omega) (by decide)
      obtain ⟨k, hk⟩ : ∃ k : Nat, 3 + x = k := ⟨(3 + x).toNat, by omega⟩
      obtain ⟨q0, q1, hl, b0, b1⟩ := part_of hf h1
      obtain ⟨u, v, e5, u0, v0⟩ := w_power F d (by omega) hF hf b0 b1 k (by omega) S4
      refine ⟨_, S4, ?_, ⟨s, ((u : Rat), (v : Rat)), rfl, zs, ⟨(s2_int u0 v0 (by omega)).mono (by omega), .inl h1⟩⟩, p4.mono (by omega), by omega⟩
      refine (cf_eq (f := i_law_pair.fn) rfl rfl).trans ?_
      have e6 : PyData.tuple [.tuple [.int q0, .int 1], .tuple [.int q1, .int 1]] = sd ((q0 : Rat), (q1 : Rat)) := by
        rw [eq_int, eq_int]; rfl
      simp only [i_law_pair, b_law_pair, Pv.start]
      simp only [List.zip_cons_cons, List.zip_nil_right] at hl
      simp [e1, e2, e3, e4, h1, hk, hl, e6, e5, take_of (show S4.length = S.length by omega)]
    · refine ⟨_, S3, ?_, ⟨s, t, rfl, zs, zt⟩, p3.mono (by omega), by omega⟩
      refine (cf_eq (f := i_law_pair.fn) rfl rfl).trans ?_
      simp only [i_law_pair, b_law_pair, Pv.start]
      simp [e1, e2, e3, h1, take_of (show S3.length = S.length by omega)]
  · refine ⟨_, S3, ?_, ⟨s, s, rfl, zs, zs⟩, p3.mono (by omega), by omega⟩
    refine (cf_eq (f := i_law_pair.fn) rfl rfl).trans ?_
    simp only [i_law_pair, b_law_pair, Pv.start]
    simp [e1, e2, e3, take_of (show S3.length = S.length by omega)]
  · refine ⟨_, S3, ?_, ⟨s, t, rfl, zs, zt⟩, p3.mono (by omega), by omega⟩
    refine (cf_eq (f := i_law_pair.fn) rfl rfl).trans ?_
    simp only [i_law_pair, b_law_pair, Pv.start]
    simp [e1, e2, e3, take_of (show S3.length = S.length by omega)]
/-! ### the cells, the pot -/
theorem w_cells (F d : Nat) (hd : 1 ≤ d) (xs : List PyData) (S : Sto) : CF F d 39 [.d (.list xs), .d (.int 3)] S = .ok (.d (.list (rngD (max 1 (min 3 xs.length))))) S := by
  obtain ⟨d, rfl⟩ : ∃ e, d = e + 1 := ⟨d - 1, by omega⟩
  refine (cf_eq (f := i_law_cells.fn) rfl rfl).trans ?_
  have e : ∃ m : Nat, (if (if (xs.length : Int) < 3 then (xs.length : Int) else 3) > 1 then (if (xs.length : Int) < 3 then (xs.length : Int) else 3) else 1 : Int) = m ∧ m = max 1 (min 3 xs.length) ∧ m ≤ 3 := by
    by_cases h : xs.length < 3
    · by_cases h2 : 1 < xs.length
      · exact ⟨xs.length, by rw [if_pos (show (xs.length : Int) < 3 by omega), if_pos (by omega)], by omega, by omega⟩
      · exact ⟨1, by rw [if_pos (show (xs.length : Int) < 3 by omega), if_neg (by omega)]; rfl, by omega, by omega⟩
    · exact ⟨3, by rw [if_neg (show ¬ (xs.length : Int) < 3 by omega), if_pos (by omega)]; rfl, by omega, by omega⟩
  obtain ⟨m, h1, h2, h3⟩ := e
  rw [← h2]
  simp only [i_law_cells, b_law_cells, Pv.start]
  simp only [sts_cons, st_ret, ev_bi, evs_cons, ev_k, ev_v, evs_nil, R.bind_ok, rds_cons, rds_nil, rd_d, biD_len_l, biD_min, biD_max, List.getElem?_cons_zero, List.getElem?_cons_succ, Option.join_some, R.opt_some, Option.bind_some, Option.map_some, List.map_cons, List.map_nil, List.length_cons, List.length_nil, List.replicate, List.append_nil, Nat.sub_self, Nat.reduceAdd, Nat.reduceSub, List.cons_append, List.nil_append]
  rw [h1]
  simp [show (m : Int).natAbs ≤ 10000000 by omega, show m ≤ 10000000 by omega]
end K26
set_option Elab.async false
set_option maxRecDepth 100000
set_option linter.unusedVariables false
set_option linter.unusedSimpArgs false
set_option exponentiation.threshold 10000
/-! M16: one lap of the law is right. -/
namespace K26
open PySem Pv L2
theorem sgI_neg2 (f x y : Int) : sgI f (-x) (-y) = -sgI f x y := by
  unfold sgI
  rw [Int.sign_neg, Int.sign_neg, show -x * -x = x * x by grind, show -y * -y = y * y by grind]
  by_cases h1 : y = 0 ∨ x = 0
  · rw [if_pos h1, if_pos (by omega)]; omega
  · rw [if_neg h1, if_neg (by omega)]
    by_cases h2 : (0 < x ↔ 0 < y)
    · rw [if_pos h2, if_pos (by omega)]
    · rw [if_neg h2, if_neg (by omega)]
      grind
theorem sig_swap (f : Int) (s t : Sd) : sig f (ssub t s) = -sig f (ssub s t) := by
  have e1 : t.1 - s.1 = -(s.1 - t.1) := by grind
  have e2 : t.2 - s.2 = -(s.2 - t.2) := by grind
  have h : ssub t s = (-(s.1 - t.1), -(s.2 - t.2)) := by unfold ssub; rw [e1, e2]
  rw [h]
  unfold sig ssub
  rw [← sgI_neg2]
  simp only [Rat.neg_num, Rat.neg_den]
  congr 1 <;> grind
theorem sgI_bd (f x y : Int) : (sgI f x y).natAbs < 2 ^ 2 := by
  have sg : ∀ z : Int, z.sign = 1 ∨ z.sign = -1 ∨ z.sign = 0 := fun z => by
    rcases Int.lt_trichotomy z 0 with h | h | h
    · exact .inr (.inl (Int.sign_eq_neg_one_of_neg h))
    · subst h; exact .inr (.inr rfl)
    · exact .inl (Int.sign_eq_one_of_pos h)
  unfold sgI
  have h1 := sg x
  have h2 := sg y
  have h3 := sg (x * x - y * y * f)
  split
  · omega
  · split
    · omega
    · rcases h1 with h1 | h1 | h1 <;> rw [h1] <;> omega
theorem eq_neg (q : Rat) : PyData.tuple [.int (-q.num), .int (q.den : Int)] = eq (-q) := by
  unfold eq
  rw [Rat.neg_num, Rat.neg_den]
theorem sz_neg {q : Rat} {n : Nat} (h : sz n q) : sz n (-q) := by
  unfold sz
  rw [Rat.neg_num, Rat.neg_den, Int.natAbs_neg]
  exact h
theorem sd_tup2 (a b : Rat) : PyData.tuple [eq a, eq b] = sd (a, b) := rfl
theorem part_back {f : Int} {s t : Sd} (h : nrm f t ≠ 0) : smul f (smul f s (sinv f t)) t = s := by
  have h' : t.1 * t.1 - t.2 * t.2 * f ≠ 0 := h
  unfold smul sinv nrm
  apply Prod.ext
  · simp only
    generalize (f : Rat) = g at *
    grind
  · simp only
    generalize (f : Rat) = g at *
    grind
theorem floor_lo {f : Int} (hf : 0 < f) (s : Sd) : ¬ sig f (ssub s ((flr f s : Rat), 0)) < 0 := by
  have o := (over_own s).q
  rw [below_iff hf o (over_int _ o.pos), Int.sub_zero]
  exact fun z => z (flr_spec hf s).1
theorem floor_hi {f : Int} (hf : 0 < f) (s : Sd) : sig f (ssub s (((flr f s + 1 : Int) : Rat), 0)) < 0 := by
  have o := (over_own s).q
  rw [below_iff hf o (over_int _ o.pos), Int.sub_zero]
  exact (flr_spec hf s).2
theorem told_one {f : Int} {n m : Nat} {s t : Sd} (hf : isF f) (hs : SdOk f n s) (ht : SdOk f m t) : 1 < f ∨ (smul f s (sinv f t)).2 = 0 := by
  by_cases h : 1 < f
  · exact .inl h
  · right
    have a := hs.one.resolve_left h
    have b := ht.one.resolve_left h
    unfold smul sinv
    simp only [a, b]
    grind
theorem w_right (F d : Nat) (hd : 12 ≤ d) (hF : 2 ^ 8999 ≤ F) {r n : Nat} {S : Sto} (hp : PotN r n S) (hn : n + 40 < 2 ^ 40) : ∃ S', CF F d 59 [.ref r] S = .ok (.d (.bool true)) S' ∧ PotN r (n + 11) S' ∧ S'.length = S.length := by
  obtain ⟨d, rfl⟩ : ∃ e, d = e + 1 := ⟨d - 1, by omega⟩
  obtain ⟨y1, S1, e1, ⟨f, rfl, hf⟩, p1, l1⟩ := w_field F d (by omega) hp (by omega)
  obtain ⟨y2, S2, e2, ⟨s, t, rfl, hs, ht⟩, p2, l2⟩ := w_pair F d (by omega) hF p1 (by omega) hf
  have hF10 : 10 ≤ F := Nat.le_trans (by decide +kernel) hF
  have hf0 : 0 < f := by have := hf.one.1; omega
  refine ⟨S2, ?_, p2, by omega⟩
  refine (cf_eq (f := i_law_right.fn) rfl rfl).trans ?_
  have tk : S2.take S.length = S2 := take_of (by omega)
  -- sums
  have e31 := w_sum F d (by omega) hF10 hf hs ht (by omega) S2
  have e52 := w_lsplus F d (by omega) hF hs.sz ht.sz (by omega) S2
  have r1 : reprOk (sd (sadd s t)) = true := rep_pair (s2_add hs.sz ht.sz).1 (s2_add hs.sz ht.sz).2 (by omega) (by omega)
  -- products
  have e32 := w_prod F d (by omega) hF10 hf hs ht (by omega) S2
  have e49 := w_lstimes F d (by omega) hF hf.sz hs.sz ht.sz (by omega) S2
  have zm := s2_mul hf.sz hs.sz ht.sz
  have r2 : reprOk (sd (smul f s t)) = true := rep_pair zm.1 zm.2 (by omega) (by omega)
  -- signs
  have e45 := w_lsless F d (by omega) hF hs.sz ht.sz (by omega) S2
  have e46 := w_lssign F d (by omega) hf.sz (s2_sub hs.sz ht.sz) (by omega) S2
  have e34 := w_compared F d (by omega) hF10 hf hs ht (by omega) S2
  have r3 : reprOk (.int (sig f (ssub s t))) = true := rep_int (sgI_bd _ _ _) (by omega)
  -- norms
  have e49c := w_lstimes F d (by omega) hF hf.sz ht.sz (t := (t.1, -t.2)) (m := 100) ⟨ht.sz.1, sz_neg ht.sz.2⟩ (by omega) S2
  have e37 := w_normed F d (by omega) hF10 hf ht (by omega) S2
  have e51 := w_lplus F d (by omega) hF ht.sz.1 ht.sz.1 (by omega) S2
  have en : (smul f t (t.1, -t.2)).1 = nrm f t := by unfold smul nrm; simp only; grind
  have r30 : reprOk (.int 0) = true := rep_int (n := 1) (by decide) (by omega)
  have r4 : reprOk (sd (t.1 + t.1, nrm f t)) = true := rep_pair (sz_add ht.sz.1 ht.sz.1) (sz_nrm hf.sz ht.sz) (by omega) (by omega)
  -- floors
  have e35 := w_rounded F d (by omega) hF10 hf hs (by omega) S2
  have e41 := w_lisint F d (by omega) (flr f s) S2
  have zf := flr_bd hf0 hf.sz hs.sz (by omega)
  have e40a := w_lisbelow F d (by omega) hF hf.sz hs.sz (t := ((flr f s : Rat), 0)) (m := 110) ⟨sz_int (nab_le zf (by omega)) (by omega), sz_0 (by omega)⟩ (by omega) S2
  have e40b := w_lisbelow F d (by omega) hF hf.sz hs.sz (t := (((flr f s + 1 : Int) : Rat), 0)) (m := 110) ⟨sz_int (nab_le (nab_add zf (y := 1) (by decide)) (by omega)) (by omega), sz_0 (by omega)⟩ (by omega) S2
  have lo := floor_lo hf0 s
  have hi := floor_hi hf0 s
  -- between
  have e60a : sig f (ssub s t) < 0 → CF F d 60 [.d (.int f), .d (sd s), .d (sd t)] S2 = .ok (.d (.bool true)) S2 := fun h => w_btwright F d (by omega) hF hf hs ht (by omega) (by omega) h S2
  have e60b : ¬ sig f (ssub s t) < 0 → ¬ sig f (ssub s t) = 0 → CF F d 60 [.d (.int f), .d (sd t), .d (sd s)] S2 = .ok (.d (.bool true)) S2 := fun h h0 => w_btwright F d (by omega) hF hf ht hs (by omega) (by omega) (by rw [sig_swap]; omega) S2
  -- parts
  have e33 : t ≠ (0, 0) → CF F d 33 [.d (.int f), .d (sd s), .d (sd t)] S2 = .ok (.d (sd (smul f s (sinv f t)))) S2 := fun h0 => w_parted F d (by omega) hF10 hf hs ht (by omega) (by omega) (nrm_ne hf ht.one h0) h0 S2
  have zt : t ≠ (0, 0) → s2 1417 (smul f s (sinv f t)) := fun h0 => (s2_mul hf.sz hs.sz (s2_inv hf.sz (nrm_ne hf ht.one h0) ht.sz (by omega))).mono (by omega)
  have e43 : t ≠ (0, 0) → CF F d 43 [.d (.int f), .d (sd (smul f s (sinv f t)))] S2 = .ok (.d (.bool true)) S2 := fun h0 => w_lissurd F d (by omega) hF (zt h0) (by omega) (told_one hf hs ht) S2
  have e49b : t ≠ (0, 0) → CF F d 49 [.d (.int f), .d (sd (smul f s (sinv f t))), .d (sd t)] S2 = .ok (.d (sd s)) S2 := fun h0 => by
    have := w_lstimes F d (by omega) hF hf.sz (zt h0) ht.sz (by omega) S2
    rw [part_back (nrm_ne hf ht.one h0)] at this
    exact this
  generalize sig f (ssub s t) = g at *
  generalize flr f s = fl at *
  have z0 : PyData.tuple [eq 0, eq 0] = sd (0, 0) := rfl
  have hc : ((fl + 1 : Int) : Rat) = (fl : Rat) + 1 := by rw [Rat.intCast_add]; rfl
  rw [hc] at e40b hi
  have q46 : CF F d 46 [.d (.int f), .d (sd (ssub s t))] S2 = .ok (.d (.int g)) S2 := e46
  have fin1 : ∀ b : Bool, cmpD .ne (sd t) (sd (0, 0)) = some b → (b = true → t ≠ (0, 0)) → outOf false S.length (sts ⟨callF (tabT ds) F d, F⟩ i_law_right.fn.body (Pv.start i_law_right.fn.nn [.ref r]) S) = .ok (.d (.bool true)) S2 := by
    intro b hb hb2
    have cm : ∀ x : Sd, cmpD .ne (sd x) (sd x) = some false := fun x => by rw [cmp_ne_sd]; simp
    cases b with
    | false =>
      by_cases g0 : g = 0
      · simp [i_law_right, b_law_right, Pv.start, e1, e2, e31, e52, r1, e32, e49, r2, e45, q46, e34, r3, eq_0, eq_int, sd_tup2, z0, hb, eq_neg, e49c, e37, e51, en, r4, e35, e41, e40a, e40b, lo, hi, g0, r30, tk]
      · by_cases g1 : g < 0
        · simp [i_law_right, b_law_right, Pv.start, e1, e2, e31, e52, r1, e32, e49, r2, e45, q46, e34, r3, eq_0, eq_int, sd_tup2, z0, hb, eq_neg, e49c, e37, e51, en, r4, e35, e41, e40a, e40b, lo, hi, g0, g1, e60a g1, tk]
        · simp [i_law_right, b_law_right, Pv.start, e1, e2, e31, e52, r1, e32, e49, r2, e45, q46, e34, r3, eq_0, eq_int, sd_tup2, z0, hb, eq_neg, e49c, e37, e51, en, r4, e35, e41, e40a, e40b, lo, hi, g0, g1, e60b g1 g0, tk]
    | true =>
      have h0 := hb2 rfl
      by_cases g0 : g = 0
      · simp [i_law_right, b_law_right, Pv.start, e1, e2, e31, e52, r1, e32, e49, r2, e45, q46, e34, r3, eq_0, eq_int, sd_tup2, z0, hb, e33 h0, e43 h0, e49b h0, cm, eq_neg, e49c, e37, e51, en, r4, e35, e41, e40a, e40b, lo, hi, g0, r30, tk]
      · by_cases g1 : g < 0
        · simp [i_law_right, b_law_right, Pv.start, e1, e2, e31, e52, r1, e32, e49, r2, e45, q46, e34, r3, eq_0, eq_int, sd_tup2, z0, hb, e33 h0, e43 h0, e49b h0, cm, eq_neg, e49c, e37, e51, en, r4, e35, e41, e40a, e40b, lo, hi, g0, g1, e60a g1, tk]
        · simp [i_law_right, b_law_right, Pv.start, e1, e2, e31, e52, r1, e32, e49, r2, e45, q46, e34, r3, eq_0, eq_int, sd_tup2, z0, hb, e33 h0, e43 h0, e49b h0, cm, eq_neg, e49c, e37, e51, en, r4, e35, e41, e40a, e40b, lo, hi, g0, g1, e60b g1 g0, tk]
  by_cases h0 : t = (0, 0)
  · exact fin1 false (by rw [cmp_ne_sd, decide_eq_true h0]; rfl) (fun z => by cases z)
  · exact fin1 true (by rw [cmp_ne_sd, decide_eq_false h0]; rfl) (fun _ => h0)
end K26
set_option Elab.async false
set_option maxRecDepth 100000
set_option linter.unusedVariables false
set_option linter.unusedSimpArgs false
set_option exponentiation.threshold 10000
/-! M17: the law. -/
namespace K26
open PySem Pv L2
theorem w_pot (F d : Nat) (hd : 1 ≤ d) {ns : List Int} {p : Nat} (hp : p ≤ 2) (h : ns = [] ∨ p < ns.length) (S : Sto) :
    ∃ xs, CF F d 38 [.d (.list (ns.map PyData.int)), .d (.int (p : Int))] S = .ok (.ref S.length) (S ++ [.lst xs]) ∧ PotN S.length 0 (S ++ [.lst xs]) := by
  obtain ⟨d, rfl⟩ : ∃ e, d = e + 1 := ⟨d - 1, by omega⟩
  -- the rest, from the cell
  have rest : ∀ (z : Int) (v3 v4 : Option A), ∃ xs, outOf true S.length (sts ⟨CF F d, F⟩ (.cons (.set 3 (.bin .mul (.bin .mod (.bi .int (.cons (.bi .abs (.cons (.v 2) .nil)) .nil)) (.bin .pow (.bin .pow (.k (.int 10)) (.k (.int 60))) (.k (.int 5)))) (.bi .int (.cons (.cmp .ge (.bi .abs (.cons (.v 2) .nil)) (.bin .pow (.k (.int 10)) (.k (.int 18)))) .nil)))) (.cons (.set 4 (.bin .mod (.bi .int (.cons (.v 2) .nil)) (.k (.int 2305843009213693951)))) (.cons (.ret (.lstM (.cons (.v 3) (.cons (.bin .mod (.bi .int (.cons (.bin .add (.bin .add (.bin .mul (.v 4) (.k (.int 590693))) (.bin .mul (.bin .mul (.k (.int 100381)) (.v 1)) (.v 1))) (.k (.int 61151))) .nil)) (.k (.int 2305843009213693921))) (.cons (.k (.int 0)) .nil))))) .nil))) [some (.d (.list (ns.map PyData.int))), some (.d (.int (p : Int))), some (.d (.int z)), v3, v4] S) = .ok (.ref S.length) (S ++ [.lst xs]) ∧ PotN S.length 0 (S ++ [.lst xs]) := by
    intro z v3 v4
    generalize hm : (if z < 0 then -z else z) = m
    have m0 : 0 ≤ m := by rw [← hm]; split <;> omega
    have pw1 : powOk 10 60 = true := by decide
    have pw2 : powOk (10 ^ 60) 5 = true := by decide +kernel
    have pw3 : powOk 10 18 = true := by decide
    have e1 : (10 : Int) ^ (60 : Int).toNat = 10 ^ 60 := rfl
    have e2 : ((10 : Int) ^ 60) ^ (5 : Int).toNat = 10 ^ 300 := by decide +kernel
    have hB : ¬ ((10 : Int) ^ 300 = 0) := by decide +kernel
    have hB0 : (0 : Int) < 10 ^ 300 := by decide +kernel
    have hB1 : (10 : Int) ^ 300 < 2 ^ 999 := by decide +kernel
    have hB1' : ((10 : Int) ^ 300) ≤ ((2 ^ 999 : Nat) : Int) := by decide +kernel
    generalize hE : (10 : Int) ^ 300 = B at *
    have k1 := fmod_nn m hB0
    have k2 := fmod_nn z (show (0 : Int) < 2305843009213693951 by omega)
    generalize hu : m.fmod B = u at *
    generalize hw : z.fmod 2305843009213693951 = w at *
    have un : u.natAbs < 2 ^ 999 := by omega
    have wn : w.natAbs < 2 ^ 62 := by omega
    have pn : (p : Int).natAbs < 2 ^ 2 := by omega
    have mu : ∀ b : Bool, mulOk u (bI b) = true := fun b => mul_ok un (m := 1) (by cases b <;> decide) (by omega)
    have m1 : mulOk w 590693 = true := mul_ok wn (m := 20) (by decide) (by omega)
    have m2 : mulOk 100381 (p : Int) = true := mul_ok (n := 17) (by decide) pn (by omega)
    have m3 : mulOk (100381 * (p : Int)) p = true := mul_ok (nab_mul (n := 17) (by decide) pn) pn (by omega)
    let b := (w * 590693 + 100381 * (p : Int) * p + 61151).fmod 2305843009213693921
    have kb := fmod_nn (w * 590693 + 100381 * (p : Int) * p + 61151) (show (0 : Int) < 2305843009213693921 by omega)
    refine ⟨[.int (u * bI (decide (10 ^ 18 ≤ m))), .int b, .int 0], ?_, ⟨u * bI (decide (10 ^ 18 ≤ m)), b, 0, by simp, ?_, ?_, kb.1, ?_, by omega, by omega⟩⟩
    · have e18 : (10 : Int) ^ (18 : Int).toNat = 10 ^ 18 := rfl
      simp only [sts_cons, st_set, st_ret, sts_nil, ev_bin, ev_bi, ev_cmp, ev_lstM, evs_cons, evs_nil, ev_v, ev_k, R.bind_ok, R.opt_some, List.getElem?_cons_zero, List.getElem?_cons_succ, Option.join_some, rds_cons, rds_nil, rd_d, Option.bind_some, Option.map_some, List.map_cons, List.map_nil, biD_abs, biD_int_i, biD_int_b, hm, binD_pow, pw1, e1, pw2, e2, hE, if_true, binD_mod, hu, ne_eq, hB, not_false_eq_true, cmpD_ge, pw3, e18, binD_mul, mu, List.set_cons_zero, List.set_cons_succ, hw]
      simp [m1, m2, m3, hw, b]
    · exact Int.mul_nonneg k1.1 (by unfold bI; split <;> omega)
    · have h1 : (bI (decide ((10 : Int) ^ 18 ≤ m))).natAbs < 2 ^ 1 := by unfold bI; split <;> decide
      exact nab_le (nab_mul un h1) (by omega)
    · show b.natAbs < 2 ^ 62
      have h1 : 0 ≤ b := kb.1
      have h2 : b < 2305843009213693921 := kb.2
      omega
  rcases h with rfl | h
  · obtain ⟨xs, r1, r2⟩ := rest (0 + 90767 * (p : Int) + 113965) none none
    refine ⟨xs, ?_, r2⟩
    rw [← r1]
    refine (cf_eq (f := i_law_pot.fn) rfl rfl).trans ?_
    have h0 : ¬ ((p : Int) < 0) := by omega
    have m2 : mulOk 90767 (p : Int) = true := mul_ok (n := 17) (m := 2) (by decide) (by omega) (by omega)
    have hs : sliceD (.list []) none (some 1) = some (.list []) := by simp [sliceD, cutD]
    have es : st ⟨CF F d, F⟩ (.set 2 (.ite (.cmp .lt (.v 1) (.bi .len (.cons (.v 0) .nil))) (.ix (.v 0) (.v 1)) (.bin .add (.bin .add (.bin .mod (.bi .sum (.cons (.slice (.v 0) .nil (.cons (.k (.int 1)) .nil)) .nil)) (.k (.int 1000003))) (.bin .mul (.k (.int 90767)) (.v 1))) (.k (.int 113965))))) (Pv.start 5 [.d (.list (([] : List Int).map PyData.int)), .d (.int (p : Int))]) S = .ok (.nx [some (.d (.list (([] : List Int).map PyData.int))), some (.d (.int (p : Int))), some (.d (.int (0 + 90767 * (p : Int) + 113965))), none, none]) S := by
      simp [Pv.start, h0, m2, optI, hs]
    simp only [i_law_pot, b_law_pot]
    rw [sts_cons, es, R.bind_ok]
  · obtain ⟨xs, r1, r2⟩ := rest ns[p] none none
    refine ⟨xs, ?_, r2⟩
    rw [← r1]
    refine (cf_eq (f := i_law_pot.fn) rfl rfl).trans ?_
    have h0 : ((p : Int) < ns.length) := by omega
    have e : atI (ns.map PyData.int) (p : Int) = some (.int ns[p]) := by rw [atN, List.getElem?_map, List.getElem?_eq_getElem h]; rfl
    have es : st ⟨CF F d, F⟩ (.set 2 (.ite (.cmp .lt (.v 1) (.bi .len (.cons (.v 0) .nil))) (.ix (.v 0) (.v 1)) (.bin .add (.bin .add (.bin .mod (.bi .sum (.cons (.slice (.v 0) .nil (.cons (.k (.int 1)) .nil)) .nil)) (.k (.int 1000003))) (.bin .mul (.k (.int 90767)) (.v 1))) (.k (.int 113965))))) (Pv.start 5 [.d (.list (ns.map PyData.int)), .d (.int (p : Int))]) S = .ok (.nx [some (.d (.list (ns.map PyData.int))), some (.d (.int (p : Int))), some (.d (.int ns[p])), none, none]) S := by
      simp [Pv.start, h0, h, e]
    simp only [i_law_pot, b_law_pot]
    rw [sts_cons, es, R.bind_ok]
theorem laps (F d : Nat) (hd : 12 ≤ d) (hF : 2 ^ 8999 ≤ F) {r : Nat} {σ : En} (hσ : σ[2]? = some (some (.ref r))) (h3 : 3 < σ.length) : ∀ (l : List PyData) (n : Nat) (S : Sto), PotN r n S → n + 11 * l.length < 1000 →
    ∃ (ys : List Bool) (S' : Sto), lcGo (lcF ⟨callF (tabT ds) F d, F⟩ (.n 3) [3] (.call 59 (.cons (.v 2) .nil)) .nil σ) l S = .ok (ys.map PyData.bool) S' ∧ ys.all id = true ∧ S'.length = S.length := by
  intro l
  induction l with
  | nil => intro n S hp hn; exact ⟨[], S, rfl, rfl, rfl⟩
  | cons x l ih =>
    intro n S hp hn
    simp only [List.length_cons] at hn
    obtain ⟨S1, e1, p1, l1⟩ := w_right F d hd hF hp (by omega)
    obtain ⟨ys, S2, e2, a2, l2⟩ := ih (n + 11) S1 p1 (by omega)
    refine ⟨true :: ys, S2, ?_, by simpa using a2, by omega⟩
    rw [lcGo_cons']
    have ex : lcF ⟨callF (tabT ds) F d, F⟩ (.n 3) [3] (.call 59 (.cons (.v 2) .nil)) .nil σ x S = .ok (some (.bool true)) S1 := by
      have h2 : ((σ.set 3 none).set 3 (some (.d x)))[2]? = some (some (.ref r)) := by simp [hσ]
      simp only [lcF, setTg_n, wipeD_cons, wipeD_nil, evs_nil, lcOne_nil, ev_call, evs_cons, ev_v, h2, Option.join_some, R.opt_some, R.bind_ok]
      rw [show callF (tabT ds) F d 59 [.ref r] S = .ok (.d (.bool true)) S1 from e1]
      rfl
    rw [ex, R.bind_ok, e2, R.bind_ok]
    rfl
theorem asBools_map (ys : List Bool) : asBools (ys.map PyData.bool) = some ys := by
  induction ys with
  | nil => rfl
  | cons y ys ih => rw [List.map_cons, asBools_cons, ih]; rfl
theorem turns (F d : Nat) (hd : 12 ≤ d) (hF : 2 ^ 8999 ≤ F) {ns : List Int} : ∀ (l : List Nat) (u v w : Option A) (S : Sto), (∀ p ∈ l, p ≤ 2 ∧ (ns = [] ∨ p < ns.length)) →
    ∃ u' v' w' S', forGo (fun _ => true) (forF ⟨callF (tabT ds) F d, F⟩ (.n 1) (.cons (.set 2 (.call 38 (.cons (.v 0) (.cons (.v 1) .nil)))) (.cons (.ife (.not (.bi .all (.cons (.lcR 3 [3] (.k (.int 8)) (.call 59 (.cons (.v 2) .nil)) .nil) .nil))) (.cons (.ret (.k (.bool false))) .nil) .nil) .nil)))
      (l.map fun i : Nat => PyData.int (i : Int)) [some (.d (.list (ns.map PyData.int))), u, v, w] S = .ok (.nx [some (.d (.list (ns.map PyData.int))), u', v', w']) S' := by
  intro l
  induction l with
  | nil => intro u v w S _; exact ⟨u, v, w, S, by simp [forGo]⟩
  | cons p l ih =>
    intro u v w S hl
    obtain ⟨hp, hns⟩ := hl p List.mem_cons_self
    obtain ⟨xs, e1, pt⟩ := w_pot F d (by omega) hp hns S
    obtain ⟨ys, S2, e2, a2, l2⟩ := laps F d hd hF (σ := [some (.d (.list (ns.map PyData.int))), some (.d (.int (p : Int))), some (.ref S.length), w]) rfl (by simp) (rngD 8) 0 _ pt (by decide)
    obtain ⟨u', v', w', S', e3⟩ := ih (some (.d (.int (p : Int)))) (some (.ref S.length)) w S2 fun q hq => hl q (List.mem_cons_of_mem _ hq)
    refine ⟨u', v', w', S', ?_⟩
    rw [← e3, List.map_cons]
    have al : ys.all id = true := a2
    simp only [forGo, if_true, forF, setTg_n]
    have body : sts ⟨callF (tabT ds) F d, F⟩ (.cons (.set 2 (.call 38 (.cons (.v 0) (.cons (.v 1) .nil)))) (.cons (.ife (.not (.bi .all (.cons (.lcR 3 [3] (.k (.int 8)) (.call 59 (.cons (.v 2) .nil)) .nil) .nil))) (.cons (.ret (.k (.bool false))) .nil) .nil) .nil)) ([some (.d (.list (ns.map PyData.int))), u, v, w].set 1 (some (.d (.int (p : Int))))) S =
        .ok (.nx [some (.d (.list (ns.map PyData.int))), some (.d (.int (p : Int))), some (.ref S.length), w]) S2 := by
      have e1' : callF (tabT ds) F d 38 [.d (.list (ns.map PyData.int)), .d (.int (p : Int))] S = .ok (.ref S.length) (S ++ [.lst xs]) := e1
      simp only [sts_cons, st_set, ev_call, evs_cons, evs_nil, ev_v, List.set_cons_zero, List.set_cons_succ, List.getElem?_cons_zero, List.getElem?_cons_succ, Option.join_some, R.opt_some, R.bind_ok, e1', st_ife, ev_not, ev_bi, ev_lcR, ev_k]
      rw [if_pos (by decide), show ((8 : Int).toNat) = 8 from rfl, e2]
      simp only [R.bind_ok, rds_cons, rds_nil, rd_d, Option.bind_some, Option.map_some, biD_all, asBools_map, al, R.opt_some, truthD_b, Bool.not_true, sts_nil]
    rw [body, R.bind_ok]
theorem pot : ∀ ns : List Int, ns.length ≤ 63 → (∀ z ∈ ns, Builtin.Int.intBits z ≤ 1048576) → ∃ S, callF (tabT ds) (2 ^ 8999) 60 61 [.d (.list (ns.map PyData.int))] [] = .ok (.d (.bool true)) S := by
  intro ns hl hb
  have e1 := w_cells (2 ^ 8999) 59 (by omega) (ns.map PyData.int) []
  rw [List.length_map] at e1
  obtain ⟨u, v, w, S', e2⟩ := turns (2 ^ 8999) 59 (by omega) (Nat.le_refl _) (ns := ns) (List.range (max 1 (min 3 ns.length))) none none none [] fun p hp => by
    rw [List.mem_range] at hp
    refine ⟨by omega, ?_⟩
    cases ns with
    | nil => exact .inl rfl
    | cons a r => right; simp only [List.length_cons] at hp ⊢; omega
  refine ⟨[], ?_⟩
  refine (cf_eq (f := i_law.fn) rfl rfl).trans ?_
  have e1' : callF (tabT ds) (2 ^ 8999) 59 39 [.d (.list (ns.map PyData.int)), .d (.int 3)] [] = .ok (.d (.list (rngD (max 1 (min 3 ns.length))))) [] := e1
  simp only [i_law, b_law, Pv.start]
  simp only [sts_cons, st_for, ev_call, evs_cons, evs_nil, ev_v, ev_k, List.length_cons, List.length_nil, List.map_cons, List.map_nil, List.cons_append, List.nil_append, List.getElem?_cons_zero, Option.join_some, R.opt_some, R.bind_ok, e1', itemsOf_l]
  have e2' := e2
  unfold rngD
  simp only [List.replicate] at *
  rw [e2']
  simp
end K26
set_option Elab.async false
set_option maxRecDepth 100000
open PySem PySem.W PyProof.Rows
set_option maxRecDepth 100000 in
set_option maxHeartbeats 0 in
theorem PySem.Challenge.cw_whennumbersstop_k26_whole_sums_and_signs_holds : PySem.Challenge.rw_whennumbersstop_k26_whole_sums_and_signs.Holds := by
  w_on; o_law; k_head; (case hw => w_witness2)
  k_fill
  refine Pv.walk_tab (l := PySem.Challenge.rw_whennumbersstop_k26_whole_sums_and_signs) (ds := K26.ds) (G := K26.G) (im := K26.im) (bl := K26.bl) (n := 63) (depth := 60) (fuel := 2 ^ 8999) (k := 61) (i := K26.i_law) rfl (by decide) rfl ⟨rfl, by decide, by decide⟩ rfl rfl rfl K26.all_s (fun w h Y => PySem.W.kIn_of Y) ?F K26.pot
  case F =>
    intro w mg h KX Gs
    have h_is_integer := by
      refine' K26.def1_mk KX K26.i_is_integer ?a ?l ?c ?k
      (case a => k_is)
      (case l => k_is)
      (case c => k_is)
      (case k => k_is)
    have h_is_between := by
      refine' K26.def1_mk KX K26.i_is_between ?a ?l ?c ?k
      (case a => k_is)
      (case l => k_is)
      (case c => k_is)
      (case k => k_is)
    have h_common := by
      refine' K26.def1_mk KX K26.i_common ?a ?l ?c ?k
      (case a => k_is)
      (case l => k_is)
      (case c => k_is)
      (case k => k_is)
    have h_reduced := by
      refine' K26.def1_mk KX K26.i_reduced ?a ?l ?c ?k
      (case a => k_is)
      (case l => k_is)
      (case c => k_is)
      (case k => k_is)
    have h_is_fraction := by
      refine' K26.def1_mk KX K26.i_is_fraction ?a ?l ?c ?k
      (case a => k_is)
      (case l => k_is)
      (case c => k_is)
      (case k => k_is)
    have h_is_told_fraction := by
      refine' K26.def1_mk KX K26.i_is_told_fraction ?a ?l ?c ?k
      (case a => k_is)
      (case l => k_is)
      (case c => k_is)
      (case k => k_is)
    have h_added := by
      refine' K26.def1_mk KX K26.i_added ?a ?l ?c ?k
      (case a => k_is)
      (case l => k_is)
      (case c => k_is)
      (case k => k_is)
    have h_difference := by
      refine' K26.def1_mk KX K26.i_difference ?a ?l ?c ?k
      (case a => k_is)
      (case l => k_is)
      (case c => k_is)
      (case k => k_is)
    have h_product_of := by
      refine' K26.def1_mk KX K26.i_product_of ?a ?l ?c ?k
      (case a => k_is)
      (case l => k_is)
      (case c => k_is)
      (case k => k_is)
    have h_quotient := by
      refine' K26.def1_mk KX K26.i_quotient ?a ?l ?c ?k
      (case a => k_is)
      (case l => k_is)
      (case c => k_is)
      (case k => k_is)
    have h_floor_root := by
      refine' K26.def1_mk KX K26.i_floor_root ?a ?l ?c ?k
      (case a => k_is)
      (case l => k_is)
      (case c => k_is)
      (case k => k_is)
    have h_is_square := by
      refine' K26.def1_mk KX K26.i_is_square ?a ?l ?c ?k
      (case a => k_is)
      (case l => k_is)
      (case c => k_is)
      (case k => k_is)
    have h_core_told := by
      refine' K26.def1_mk KX K26.i_core_told ?a ?l ?c ?k
      (case a => k_is)
      (case l => k_is)
      (case c => k_is)
      (case k => k_is)
    have h_is_field := by
      refine' K26.def1_mk KX K26.i_is_field ?a ?l ?c ?k
      (case a => k_is)
      (case l => k_is)
      (case c => k_is)
      (case k => k_is)
    have h_check_field := by
      refine' K26.def1_mk KX K26.i_check_field ?a ?l ?c ?k
      (case a => k_is)
      (case l => k_is)
      (case c => k_is)
      (case k => k_is)
    have h_is_surd := by
      refine' K26.def1_mk KX K26.i_is_surd ?a ?l ?c ?k
      (case a => k_is)
      (case l => k_is)
      (case c => k_is)
      (case k => k_is)
    have h_check_surd := by
      refine' K26.def1_mk KX K26.i_check_surd ?a ?l ?c ?k
      (case a => k_is)
      (case l => k_is)
      (case c => k_is)
      (case k => k_is)
    have h_surd_of := by
      refine' K26.def1_mk KX K26.i_surd_of ?a ?l ?c ?k
      (case a => k_is)
      (case l => k_is)
      (case c => k_is)
      (case k => k_is)
    have h_is_nothing := by
      refine' K26.def1_mk KX K26.i_is_nothing ?a ?l ?c ?k
      (case a => k_is)
      (case l => k_is)
      (case c => k_is)
      (case k => k_is)
    have h_surd_plus := by
      refine' K26.def1_mk KX K26.i_surd_plus ?a ?l ?c ?k
      (case a => k_is)
      (case l => k_is)
      (case c => k_is)
      (case k => k_is)
    have h_surd_less := by
      refine' K26.def1_mk KX K26.i_surd_less ?a ?l ?c ?k
      (case a => k_is)
      (case l => k_is)
      (case c => k_is)
      (case k => k_is)
    have h_surd_times := by
      refine' K26.def1_mk KX K26.i_surd_times ?a ?l ?c ?k
      (case a => k_is)
      (case l => k_is)
      (case c => k_is)
      (case k => k_is)
    have h_norm_of := by
      refine' K26.def1_mk KX K26.i_norm_of ?a ?l ?c ?k
      (case a => k_is)
      (case l => k_is)
      (case c => k_is)
      (case k => k_is)
    have h_surd_inverse := by
      refine' K26.def1_mk KX K26.i_surd_inverse ?a ?l ?c ?k
      (case a => k_is)
      (case l => k_is)
      (case c => k_is)
      (case k => k_is)
    have h_surd_by := by
      refine' K26.def1_mk KX K26.i_surd_by ?a ?l ?c ?k
      (case a => k_is)
      (case l => k_is)
      (case c => k_is)
      (case k => k_is)
    have h_sign_of := by
      refine' K26.def1_mk KX K26.i_sign_of ?a ?l ?c ?k
      (case a => k_is)
      (case l => k_is)
      (case c => k_is)
      (case k => k_is)
    have h_surd_sign := by
      refine' K26.def1_mk KX K26.i_surd_sign ?a ?l ?c ?k
      (case a => k_is)
      (case l => k_is)
      (case c => k_is)
      (case k => k_is)
    have h_surd_is_less := by
      refine' K26.def1_mk KX K26.i_surd_is_less ?a ?l ?c ?k
      (case a => k_is)
      (case l => k_is)
      (case c => k_is)
      (case k => k_is)
    have h_surd_floor := by
      refine' K26.def1_mk KX K26.i_surd_floor ?a ?l ?c ?k
      (case a => k_is)
      (case l => k_is)
      (case c => k_is)
      (case k => k_is)
    have h_fraction_between := by
      refine' K26.def1_mk KX K26.i_fraction_between ?a ?l ?c ?k
      (case a => k_is)
      (case l => k_is)
      (case c => k_is)
      (case k => k_is)
    have h_check_two_surds := by
      refine' K26.def1_mk KX K26.i_check_two_surds ?a ?l ?c ?k
      (case a => k_is)
      (case l => k_is)
      (case c => k_is)
      (case k => k_is)
    have h_surd_sum := by
      refine' K26.def1_mk KX K26.i_surd_sum ?a ?l ?c ?k
      (case a => k_is)
      (case l => k_is)
      (case c => k_is)
      (case k => k_is)
    have h_surd_product := by
      refine' K26.def1_mk KX K26.i_surd_product ?a ?l ?c ?k
      (case a => k_is)
      (case l => k_is)
      (case c => k_is)
      (case k => k_is)
    have h_surd_parted := by
      refine' K26.def1_mk KX K26.i_surd_parted ?a ?l ?c ?k
      (case a => k_is)
      (case l => k_is)
      (case c => k_is)
      (case k => k_is)
    have h_surd_compared := by
      refine' K26.def1_mk KX K26.i_surd_compared ?a ?l ?c ?k
      (case a => k_is)
      (case l => k_is)
      (case c => k_is)
      (case k => k_is)
    have h_surd_rounded := by
      refine' K26.def1_mk KX K26.i_surd_rounded ?a ?l ?c ?k
      (case a => k_is)
      (case l => k_is)
      (case c => k_is)
      (case k => k_is)
    have h_surd_between := by
      refine' K26.def1_mk KX K26.i_surd_between ?a ?l ?c ?k
      (case a => k_is)
      (case l => k_is)
      (case c => k_is)
      (case k => k_is)
    have h_surd_norm := by
      refine' K26.def1_mk KX K26.i_surd_norm ?a ?l ?c ?k
      (case a => k_is)
      (case l => k_is)
      (case c => k_is)
      (case k => k_is)
    have h_law_pot := by
      refine' K26.def1_mk KX K26.i_law_pot ?a ?l ?c ?k
      (case a => k_is)
      (case l => k_is)
      (case c => k_is)
      (case k => k_is)
    have h_law_cells := by
      refine' K26.def1_mk KX K26.i_law_cells ?a ?l ?c ?k
      (case a => k_is)
      (case l => k_is)
      (case c => k_is)
      (case k => k_is)
    have h_law_s_is_below := by
      refine' K26.def1_mk KX K26.i_law_s_is_below ?a ?l ?c ?k
      (case a => k_is)
      (case l => k_is)
      (case c => k_is)
      (case k => k_is)
    have h_law_is_int := by
      refine' K26.def1_mk KX K26.i_law_is_int ?a ?l ?c ?k
      (case a => k_is)
      (case l => k_is)
      (case c => k_is)
      (case k => k_is)
    have h_law_is_fraction := by
      refine' K26.def1_mk KX K26.i_law_is_fraction ?a ?l ?c ?k
      (case a => k_is)
      (case l => k_is)
      (case c => k_is)
      (case k => k_is)
    have h_law_is_surd := by
      refine' K26.def1_mk KX K26.i_law_is_surd ?a ?l ?c ?k
      (case a => k_is)
      (case l => k_is)
      (case c => k_is)
      (case k => k_is)
    have h_law_less := by
      refine' K26.def1_mk KX K26.i_law_less ?a ?l ?c ?k
      (case a => k_is)
      (case l => k_is)
      (case c => k_is)
      (case k => k_is)
    have h_law_s_less := by
      refine' K26.def1_mk KX K26.i_law_s_less ?a ?l ?c ?k
      (case a => k_is)
      (case l => k_is)
      (case c => k_is)
      (case k => k_is)
    have h_law_s_sign := by
      refine' K26.def1_mk KX K26.i_law_s_sign ?a ?l ?c ?k
      (case a => k_is)
      (case l => k_is)
      (case c => k_is)
      (case k => k_is)
    have h_law_field := by
      refine' K26.def1_mk KX K26.i_law_field ?a ?l ?c ?k
      (case a => k_is)
      (case l => k_is)
      (case c => k_is)
      (case k => k_is)
    have h_law_times := by
      refine' K26.def1_mk KX K26.i_law_times ?a ?l ?c ?k
      (case a => k_is)
      (case l => k_is)
      (case c => k_is)
      (case k => k_is)
    have h_law_s_times := by
      refine' K26.def1_mk KX K26.i_law_s_times ?a ?l ?c ?k
      (case a => k_is)
      (case l => k_is)
      (case c => k_is)
      (case k => k_is)
    have h_law_s_power := by
      refine' K26.def1_mk KX K26.i_law_s_power ?a ?l ?c ?k
      (case a => k_is)
      (case l => k_is)
      (case c => k_is)
      (case k => k_is)
    have h_law_plus := by
      refine' K26.def1_mk KX K26.i_law_plus ?a ?l ?c ?k
      (case a => k_is)
      (case l => k_is)
      (case c => k_is)
      (case k => k_is)
    have h_law_s_plus := by
      refine' K26.def1_mk KX K26.i_law_s_plus ?a ?l ?c ?k
      (case a => k_is)
      (case l => k_is)
      (case c => k_is)
      (case k => k_is)
    have h_law_of := by
      refine' K26.def1_mk KX K26.i_law_of ?a ?l ?c ?k
      (case a => k_is)
      (case l => k_is)
      (case c => k_is)
      (case k => k_is)
    have h_law_take := by
      refine' K26.def1_mk KX K26.i_law_take ?a ?l ?c ?k
      (case a => k_is)
      (case l => k_is)
      (case c => k_is)
      (case k => k_is)
    have h_law_reduced := by
      refine' K26.def1_mk KX K26.i_law_reduced ?a ?l ?c ?k
      (case a => k_is)
      (case l => k_is)
      (case c => k_is)
      (case k => k_is)
    have h_law_number := by
      refine' K26.def1_mk KX K26.i_law_number ?a ?l ?c ?k
      (case a => k_is)
      (case l => k_is)
      (case c => k_is)
      (case k => k_is)
    have h_law_surd := by
      refine' K26.def1_mk KX K26.i_law_surd ?a ?l ?c ?k
      (case a => k_is)
      (case l => k_is)
      (case c => k_is)
      (case k => k_is)
    have h_law_pair := by
      refine' K26.def1_mk KX K26.i_law_pair ?a ?l ?c ?k
      (case a => k_is)
      (case l => k_is)
      (case c => k_is)
      (case k => k_is)
    have h_law_right := by
      refine' K26.def1_mk KX K26.i_law_right ?a ?l ?c ?k
      (case a => k_is)
      (case l => k_is)
      (case c => k_is)
      (case k => k_is)
    have h_law_is_between_right := by
      refine' K26.def1_mk KX K26.i_law_is_between_right ?a ?l ?c ?k
      (case a => k_is)
      (case l => k_is)
      (case c => k_is)
      (case k => k_is)
    have h_law := by
      refine' K26.def1_mk KX K26.i_law ?a ?l ?c ?k
      (case a => k_is)
      (case l => k_is)
      (case c => k_is)
      (case k => k_is)
    refine' K26.all_k KX Gs h_is_integer h_is_between h_common h_reduced h_is_fraction h_is_told_fraction h_added h_difference h_product_of h_quotient h_floor_root h_is_square h_core_told h_is_field h_check_field h_is_surd h_check_surd h_surd_of h_is_nothing h_surd_plus h_surd_less h_surd_times h_norm_of h_surd_inverse h_surd_by h_sign_of h_surd_sign h_surd_is_less h_surd_floor h_fraction_between h_check_two_surds h_surd_sum h_surd_product h_surd_parted h_surd_compared h_surd_rounded h_surd_between h_surd_norm h_law_pot h_law_cells h_law_s_is_below h_law_is_int h_law_is_fraction h_law_is_surd h_law_less h_law_s_less h_law_s_sign h_law_field h_law_times h_law_s_times h_law_s_power h_law_plus h_law_s_plus h_law_of h_law_take h_law_reduced h_law_number h_law_surd h_law_pair h_law_right h_law_is_between_right h_law ?gB ?eB ?gM ?gN ?lN ?cN ?dN ?eN ?g1 ?g2 ?bl
    (case gB => k_is)
    (case eB => decide +kernel)
    (case gM => k_is)
    (case gN => k_is)
    (case lN => k_is)
    (case cN => rfl)
    (case dN => rfl)
    (case eN => rfl)
    (case g1 => k_is)
    (case g2 => k_is)
    case bl =>
      intro x hx
      simp only [K26.bl, List.mem_cons, List.not_mem_nil, or_false] at hx
      rcases hx with rfl | rfl | rfl | rfl | rfl | rfl | rfl | rfl | rfl | rfl | rfl | rfl | rfl <;> k_is
