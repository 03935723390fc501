import PyProof.Rows.All
import Wide.All
import OpenK.AllK
import Wide.FinOn
import HandS.ForMost
import HandS.Exc
import HandS.ExcOwn
import HandS.ExcInit
import HandS.Defaults
import HandS.Zip
import HandS.Wide
import HandS.IsInst
import HandS.FStr
import HandS.Deep
import HandS.DictComp
import HandS.WordsExc
import HandS.WordsDict
import HandS.TupMul
import KE.GoesEnum
import KE.GoesMore
import HandS.Iter
import HandS.Style
import HandS.BoundDict
import HandS.NoneIn
import HandS.Small
import HandS.HeadEnd
import HandS.HeadHook1
import HandS.HeadHook2
import KE.KStateDown
import Lean
import HandS.Base
import HandS.Call
import HandS.Ends
import HandS.More
import HandS.Words
import HandS.Head0
import HandS.Head1
import HandS.Head2
import PySem.Challenge.RW_needfill_k50_things_in_common
set_option Elab.async false
set_option linter.all false
section
/-! ML: a small language with an interpreter, for programs of one form. -/
set_option linter.all false
namespace ML
abbrev Sg := List Nat

/-- data: texts by their codes, tuples by value, what may change by its place in the store, a list that is only read (the script) by value -/
inductive D where
  | non | bl (b : Bool) | int (i : Int) | str (s : Sg) | tup (xs : List D) | loc (n : Nat) | rol (xs : List D)
deriving Inhabited, Repr

mutual
def D.depth : D → Nat
  | .tup xs => D.depths xs + 1
  | .rol xs => D.depths xs + 1
  | .non | .bl _ | .int _ | .str _ | .loc _ => 0
def D.depths : List D → Nat
  | [] => 0
  | x :: xs => max x.depth (D.depths xs)
end
mutual
/-- no place lies within, from n on -/
def D.und (n : Nat) : D → Bool
  | .tup xs => D.unds n xs
  | .rol xs => D.unds n xs
  | .loc m => decide (m < n)
  | .non | .bl _ | .int _ | .str _ => true
def D.unds (n : Nat) : List D → Bool
  | [] => true
  | x :: xs => x.und n && D.unds n xs
end
mutual
/-- Python's == -/
def D.eqp : D → D → Bool
  | .non, .non => true
  | .bl a, .bl b => a == b
  | .bl a, .int j => (if a then 1 else 0) == j
  | .int i, .bl b => i == (if b then 1 else 0)
  | .int i, .int j => i == j
  | .str x, .str y => x == y
  | .tup xs, .tup ys => D.eqps xs ys
  | _, _ => false
def D.eqps : List D → List D → Bool
  | [], [] => true
  | x :: xs, y :: ys => D.eqp x y && D.eqps xs ys
  | _, _ => false
end
mutual
def D.beq : D → D → Bool
  | .non, .non => true
  | .bl a, .bl b => a == b
  | .int i, .int j => i == j
  | .str x, .str y => x == y
  | .tup xs, .tup ys => D.beqs xs ys
  | .rol xs, .rol ys => D.beqs xs ys
  | .loc m, .loc n => m == n
  | _, _ => false
def D.beqs : List D → List D → Bool
  | [], [] => true
  | x :: xs, y :: ys => D.beq x y && D.beqs xs ys
  | _, _ => false
end
mutual
theorem D.beq_iff : ∀ a b : D, D.beq a b = true ↔ a = b
  | .non, b => by cases b <;> simp [D.beq]
  | .bl a, b => by cases b <;> simp [D.beq]
  | .int a, b => by cases b <;> simp [D.beq]
  | .str a, b => by cases b <;> simp [D.beq]
  | .loc a, b => by cases b <;> simp [D.beq]
  | .tup xs, b => by
    cases b with
    | tup ys => simp [D.beq, D.beqs_iff xs ys]
    | _ => simp [D.beq]
  | .rol xs, b => by
    cases b with
    | rol ys => simp [D.beq, D.beqs_iff xs ys]
    | _ => simp [D.beq]
theorem D.beqs_iff : ∀ a b : List D, D.beqs a b = true ↔ a = b
  | [], b => by cases b <;> simp [D.beqs]
  | x :: xs, b => by
    cases b with
    | nil => simp [D.beqs]
    | cons y ys => simp [D.beqs, D.beq_iff x y, D.beqs_iff xs ys]
end
instance : DecidableEq D := fun a b => if h : D.beq a b = true then .isTrue ((D.beq_iff a b).mp h) else .isFalse fun e => h ((D.beq_iff a b).mpr e)

/-- what stands in the store -/
inductive O where
  | lst (xs : List D) | dct (kvs : List (D × D)) | ins (c : Nat) (fs : List (Nat × D)) | exn (c : Nat) (fs : List (Nat × D))
deriving DecidableEq, Inhabited, Repr
abbrev St := List O
abbrev Env := List (Option D)

inductive Fl where
  | nx (σ : Env) | rt (d : D) | bk (σ : Env) | ct (σ : Env)
  /-- raised, the slots as they stood -/
  | xc (c : Nat) (fs : List (Nat × D)) (σ : Env)


inductive Out (α : Type) where
  | ok (a : α) (S : St)
  | exc (c : Nat) (fs : List (Nat × D)) (S : St)
  | bad
deriving Repr
def Out.bnd {α β : Type} (x : Out α) (f : α → St → Out β) : Out β := match x with
  | .ok a S => f a S
  | .exc c fs S => .exc c fs S
  | .bad => .bad

/-- what raises within a comprehension is not followed -/
def Out.nox {α : Type} (x : Out α) : Out α := match x with
  | .exc _ _ _ => .bad
  | r => r
def Out.lft {α : Type} (x : Out α) (σ : Env) (f : α → St → Out Fl) : Out Fl := match x with
  | .ok a S => f a S
  | .exc c fs S => .ok (.xc c fs σ) S
  | .bad => .bad

/-- operators -/
inductive Bop where | add | sub | mul | fdiv | mod | pow
inductive Cop where | eq | ne | lt | le | gt | ge | isin | notin
inductive Ty where | str | int | bool | tup | cls (c : Nat)
/-- built-in functions of plain values -/
inductive Blt where | len | int | str | abs | max2 | min2 | tup | repr
/-- .. of a list's or tuple's items -/
inductive LB where | tup | all | any | sum | len | maxd (d : Int) | max | list | sumL
/-- built-in methods -/
inductive Mth where | append | extend | pop | pop1 | get | setdefault | split | lstrip | rstrip | count | join | replace | update | insert | items

mutual
inductive E where
  | var (i : Nat) | cst (d : D) | tup (es : Es)
  | lst (l : L)
  | idx (a b : E) | idxL (l : L) (b : E)
  | sl (a : E) (lo hi : EO)
  | rev (a : E)
  | bin (op : Bop) (a b : E) | neg (a : E)
  | cmp (op : Cop) (a b : E) | cmpL (ne : Bool) (a b : L) | inL (neg : Bool) (a : E) (l : L)
  | isn (neg : Bool) (a : E)
  | chain (o p : Cop) (a b c : E)
  | and (a b : E) | or (a b : E) | not (a : E)
  | ife (c a b : E)
  | call (f : Nat) (es : Es)
  | new (c : Nat) (es : Es)
  | mcall (m : Nat) (o : E) (es : Es)
  | attr (a : E) (f : Nat)
  | blt (b : Blt) (es : Es) | bl1 (b : LB) (l : L)
  | mth (m : Mth) (o : E) (es : Es) | mthL (m : Mth) (o : E) (l : L)
  | isi (a : E) (ts : List Ty)
  | dict0
  | dcomp (k v : E) (own : List Nat) (t : Tg) (it : It) (c : EO)
  | fstr (es : Es)
inductive Es where
  | nil | cons (e : E) (es : Es)
inductive EO where
  | none | some (e : E)
/-- a list (true) or a tuple (false) that is read at once -/
inductive L where
  | disp (es : Es) | ofE (e : E) | add (a b : L) | sl (a : L) (lo hi : EO) | rev (a : L)
  | comp (e : E) (own : List Nat) (t : Tg) (it : It) (c : EO)
  | comp2 (e : E) (own own2 : List Nat) (t : Tg) (it : It) (c : EO) (t2 : Tg) (it2 : It) (c2 : EO)
  | list (l : L) | zipL (a b : E)
/-- what is walked -/
inductive It where
  | e (e : E) | l (l : L) | rng (a : E) | rng2 (a b : E) | enum (l : L) | zip (a b : L)
inductive Tg where
  | v (i : Nat) | tup (ts : Tgs) | idx (a b : E) | attr (a : E) (f : Nat)
inductive Tgs where
  | nil | cons (t : Tg) (ts : Tgs)
end
mutual
inductive S where
  | asg (t : Tg) (e : E) | aug (i : Nat) (op : Bop) (e : E) | augF (a : E) (f : Nat) (op : Bop) (e : E) | ex (e : E)
  | iff (c : E) (a b : Ss) | frr (t : Tg) (it : It) (b : Ss) | whl (c : E) (b : Ss)
  | ret (e : E) | retN | pass | brk | cnt
  | raise (c : Nat) (es : Es)
  | tryx (b : Ss) (hs : Hs) | fin (b f : Ss)
inductive Ss where
  | nil | cons (s : S) (ss : Ss)
inductive Hs where
  | nil | cons (cs : List Nat) (i : Option Nat) (b : Ss) (hs : Hs)
end

structure Fn where
  ar : Nat
  n : Nat
  body : Ss

/-- lists that are walked: their places, as they stood -/
abbrev Gd := List (Nat × O)
def Gd.ok (g : Gd) (S : St) : Bool := g.all fun p => decide (S[p.1]? = some p.2)
/-- a list or a tuple that is read: a list?, its items, where it stands, only to be read? -/
structure Li where
  b : Bool
  xs : List D
  g : Gd
  r : Bool := false
/-! ### operations -/
def lim : Nat := 1000000
def mkStr (s : Sg) (S : St) : Out D := if s.length ≤ lim then .ok (.str s) S else .bad
def mkTup (xs : List D) (S : St) : Out D := if xs.length ≤ lim then .ok (.tup xs) S else .bad
def mkLst (xs : List D) (S : St) : Out D := if xs.length ≤ lim then .ok (.loc S.length) (S ++ [.lst xs]) else .bad
/-- a list's items -/
def lstAt (S : St) (n : Nat) : Option (List D) := match S[n]? with
  | some (.lst xs) => some xs
  | _ => none
def big : Int := 18446744073709551616
def small (i : Int) : Bool := decide (-big < i) && decide (i < big)
def binD (op : Bop) (a b : D) (S : St) : Out D := match op, a, b with
  | .add, .int i, .int j => .ok (.int (i + j)) S
  | .add, .str x, .str y => mkStr (x ++ y) S
  | .add, .tup x, .tup y => mkTup (x ++ y) S
  | .add, .loc l, .loc m => match S[l]?, S[m]? with
    | some (.lst x), some (.lst y) => mkLst (x ++ y) S
    | _, _ => .bad
  | .sub, .int i, .int j => .ok (.int (i - j)) S
  | .mul, .int i, .int j => if small i || small j then .ok (.int (i * j)) S else .bad
  | .mul, .str x, .int j => if -1000 ≤ j ∧ j ≤ 1000 then mkStr ((List.replicate j.toNat x).flatten) S else .bad
  | .mul, .loc l, .int j => match S[l]? with
    | some (.lst x) => if -1000 ≤ j ∧ j ≤ 1000 then mkLst ((List.replicate j.toNat x).flatten) S else .bad
    | _ => .bad
  | .fdiv, .int i, .int j => if 0 < j ∧ j < big then .ok (.int (i / j)) S else .bad
  | .mod, .int i, .int j => if 0 < j ∧ j < big then .ok (.int (i % j)) S else .bad
  | .pow, .int i, .int j => if small i && decide (0 ≤ j) && decide (j ≤ 1000) then .ok (.int (i ^ j.toNat)) S else .bad
  | _, _, _ => .bad
def D.flat : D → Bool
  | .tup _ | .loc _ | .rol _ => false
  | _ => true
mutual
/-- no list that is only read lies within -/
def D.noR : D → Bool
  | .tup xs => D.noRs xs
  | .rol _ => false
  | .non | .bl _ | .int _ | .str _ | .loc _ => true
def D.noRs : List D → Bool
  | [] => true
  | x :: xs => x.noR && D.noRs xs
end
/-- may be compared by == -/
def D.cmpOk (d : D) : Bool := d.und 0 && d.noR && decide (d.depth ≤ 64)
def lookD (kvs : List (D × D)) (k : D) : Option D := (kvs.find? fun p => p.1 = k).map (·.2)
def keyOk : D → Bool
  | .str _ | .int _ => true
  | _ => false
def inItems (a : D) (xs : List D) (S : St) : Out Bool := if a.flat && xs.all D.flat then .ok (xs.any fun x => D.eqp x a) S else .bad
def inD (a b : D) (S : St) : Out Bool := match b with
  | .str y => match a with
    | .str [c] => .ok (y.any (· == c)) S
    | _ => .bad
  | .tup xs => inItems a xs S
  | .loc l => match S[l]? with
    | some (.lst xs) => inItems a xs S
    | some (.dct kvs) => if keyOk a then .ok (lookD kvs a).isSome S else .bad
    | _ => .bad
  | _ => .bad
def cmpD (op : Cop) (a b : D) (S : St) : Out Bool := match op with
  | .eq => if a.cmpOk && b.cmpOk then .ok (D.eqp a b) S else .bad
  | .ne => if a.cmpOk && b.cmpOk then .ok (!D.eqp a b) S else .bad
  | .isin => inD a b S
  | .notin => (inD a b S).bnd fun r S => .ok (!r) S
  | .lt => match a, b with
    | .int i, .int j => .ok (decide (i < j)) S
    | _, _ => .bad
  | .le => match a, b with
    | .int i, .int j => .ok (decide (i ≤ j)) S
    | _, _ => .bad
  | .gt => match a, b with
    | .int i, .int j => .ok (decide (j < i)) S
    | _, _ => .bad
  | .ge => match a, b with
    | .int i, .int j => .ok (decide (j ≤ i)) S
    | _, _ => .bad
/-- the place that an index of any sign means -/
def ixN (n : Nat) (i : Int) : Option Nat := if 0 ≤ i then (if i < n then some i.toNat else none) else if -(n : Int) ≤ i then some (i + n).toNat else none
def atI {α : Type} (xs : List α) (i : Int) : Option α := (ixN xs.length i).bind fun j => xs[j]?
def okO {α : Type} (o : Option α) (S : St) : Out α := match o with
  | some a => .ok a S
  | none => .bad
def idxD (a b : D) (S : St) : Out D := match a, b with
  | .tup xs, .int i => okO (atI xs i) S
  | .str s, .int i => okO ((atI s i).map fun c => .str [c]) S
  | .rol xs, .int i => okO (atI xs i) S
  | .loc l, k => match S[l]? with
    | some (.lst xs) => match k with
      | .int i => okO (atI xs i) S
      | _ => .bad
    | some (.dct kvs) => if keyOk k then okO (lookD kvs k) S else .bad
    | _ => .bad
  | _, _ => .bad
/-- where a slice begins, ends -/
def cutAt (n : Nat) (dflt : Nat) (o : Option Int) : Nat := match o with
  | none => dflt
  | some i => if i < 0 then (i + n).toNat else min i.toNat n
def cut {α : Type} (xs : List α) (lo hi : Option Int) : List α := (xs.drop (cutAt xs.length 0 lo)).take (cutAt xs.length xs.length hi - cutAt xs.length 0 lo)
def optInt (o : Option D) : Option (Option Int) := match o with
  | none => some none
  | some (.int i) => some (some i)
  | _ => none
def slD (a : D) (lo hi : Option Int) (S : St) : Out D := match a with
  | .tup xs => .ok (.tup (cut xs lo hi)) S
  | .str s => .ok (.str (cut s lo hi)) S
  | .rol xs => mkLst (cut xs lo hi) S
  | .loc l => match lstAt S l with
    | some xs => mkLst (cut xs lo hi) S
    | none => .bad
  | _ => .bad
def revD (a : D) (S : St) : Out D := match a with
  | .loc l => match lstAt S l with
    | some xs => mkLst xs.reverse S
    | none => .bad
  | _ => .bad
def digits (n : Nat) : Sg := (Nat.toDigits 10 n).map Char.toNat
def strInt (i : Int) : Sg := if i < 0 then 45 :: digits i.natAbs else digits i.natAbs
def itemsOf (S : St) (d : D) : Option (List D) := match d with
  | .tup xs => some xs
  | .rol xs => some xs
  | .loc l => lstAt S l
  | _ => none
def bltD (b : Blt) (as : List D) (S : St) : Out D := match b, as with
  | .len, [.str s] => .ok (.int s.length) S
  | .len, [.tup s] => .ok (.int s.length) S
  | .len, [.rol s] => .ok (.int s.length) S
  | .len, [.loc l] => match S[l]? with
    | some (.lst xs) => .ok (.int xs.length) S
    | some (.dct kvs) => .ok (.int kvs.length) S
    | _ => .bad
  | .int, [.int i] => .ok (.int i) S
  | .int, [.bl b] => .ok (.int (if b then 1 else 0)) S
  | .str, [.int i] => if i.natAbs < 1000000000000000000 then .ok (.str (strInt i)) S else .bad
  | .abs, [.int i] => .ok (.int (if i < 0 then -i else i)) S
  | .max2, [.int i, .int j] => .ok (.int (if j > i then j else i)) S
  | .min2, [.int i, .int j] => .ok (.int (if j < i then j else i)) S
  | .tup, [d] => match itemsOf S d with
    | some xs => .ok (.tup xs) S
    | none => .bad
  | _, _ => .bad
def bools : List D → Option (List Bool)
  | [] => some []
  | .bl b :: r => (bools r).map (b :: ·)
  | _ => none
def intsD : List D → Option (List Int)
  | [] => some []
  | .int b :: r => (intsD r).map (b :: ·)
  | _ => none
def strsD : List D → Option (List Sg)
  | [] => some []
  | .str b :: r => (strsD r).map (b :: ·)
  | _ => none
def lists (S : St) : List D → Option (List D)
  | [] => some []
  | .loc l :: r => (lstAt S l).bind fun xs => (lists S r).map (xs ++ ·)
  | _ => none
def lbD (b : LB) (p : Li) (S : St) : Out D := match b with
  | .tup => .ok (.tup p.xs) S
  | .list => mkLst p.xs S
  | .len => .ok (.int p.xs.length) S
  | .all => if p.b then okO ((bools p.xs).map fun bs => .bl (bs.all id)) S else .bad
  | .any => if p.b then okO ((bools p.xs).map fun bs => .bl (bs.any id)) S else .bad
  | .sum => if p.b then okO ((intsD p.xs).map fun bs => .int bs.sum) S else .bad
  | .maxd d => if p.b then okO ((intsD p.xs).map fun bs => match bs with
    | [] => .int d
    | b :: r => .int (r.foldl max b)) S else .bad
  | .max => if p.b then okO ((intsD p.xs).bind fun bs => match bs with
    | [] => none
    | b :: r => some (.int (r.foldl max b))) S else .bad
  | .sumL => if p.b then (match lists S p.xs with
    | some ys => mkLst ys S
    | none => .bad) else .bad
def putD (kvs : List (D × D)) (k v : D) : List (D × D) := match kvs with
  | [] => [(k, v)]
  | p :: r => if p.1 = k then (k, v) :: r else p :: putD r k v
def setIx (a b v : D) (S : St) : Out Unit := match a with
  | .loc l => match S[l]? with
    | some (.lst xs) => match b with
      | .int i => match ixN xs.length i with
        | some j => .ok () (S.set l (.lst (xs.set j v)))
        | none => .bad
      | _ => .bad
    | some (.dct kvs) => if keyOk b && decide (kvs.length < lim) then .ok () (S.set l (.dct (putD kvs b v))) else .bad
    | _ => .bad
  | _ => .bad
def putF (fs : List (Nat × D)) (k : Nat) (v : D) : List (Nat × D) := match fs with
  | [] => [(k, v)]
  | p :: r => if p.1 = k then (k, v) :: r else p :: putF r k v
def setAttr (a : D) (f : Nat) (v : D) (S : St) : Out Unit := match a with
  | .loc l => match S[l]? with
    | some (.ins c fs) => if fs.length < 100 then .ok () (S.set l (.ins c (putF fs f v))) else .bad
    | _ => .bad
  | _ => .bad
def attrD (a : D) (f : Nat) (S : St) : Out D := match a with
  | .loc l => match S[l]? with
    | some (.ins _ fs) => okO (fs.lookup f) S
    | some (.exn _ fs) => okO (fs.lookup f) S
    | _ => .bad
  | _ => .bad
def joinS (sep : Sg) : List Sg → Sg
  | [] => []
  | [x] => x
  | x :: r => x ++ sep ++ joinS sep r
def splitAt1 (c : Nat) : Sg → Sg → List Sg
  | acc, [] => [acc.reverse]
  | acc, x :: r => if x = c then acc.reverse :: splitAt1 c [] r else splitAt1 c (x :: acc) r
def splitS (c : Nat) (s : Sg) : List Sg := splitAt1 c [] s
def joinOk (sep : Sg) (ys : List Sg) : Bool := decide ((ys.map List.length).sum + ys.length * sep.length ≤ lim)
def mthD (m : Mth) (a : D) (as : List D) (S : St) : Out D := match m, a, as with
  | .append, .loc l, [x] => match S[l]? with
    | some (.lst xs) => if xs.length < lim then .ok .non (S.set l (.lst (xs ++ [x]))) else .bad
    | _ => .bad
  | .pop, .loc l, [] => match S[l]? with
    | some (.lst xs) => match xs[xs.length - 1]? with
      | some y => .ok y (S.set l (.lst xs.dropLast))
      | none => .bad
    | _ => .bad
  | .pop1, .loc l, [.int i] => match S[l]? with
    | some (.lst xs) => match ixN xs.length i with
      | some j => match xs[j]? with
        | some y => .ok y (S.set l (.lst (xs.eraseIdx j)))
        | none => .bad
      | none => .bad
    | _ => .bad
  | .get, .loc l, [k, x] => match S[l]? with
    | some (.dct kvs) => if keyOk k then .ok ((lookD kvs k).getD x) S else .bad
    | _ => .bad
  | .setdefault, .loc l, [k, x] => match S[l]? with
    | some (.dct kvs) => if keyOk k && decide (kvs.length < lim) then (match lookD kvs k with
      | some y => .ok y S
      | none => .ok x (S.set l (.dct (kvs ++ [(k, x)])))) else .bad
    | _ => .bad
  | .lstrip, .str s, [.str [c]] => .ok (.str (s.dropWhile (· == c))) S
  | .rstrip, .str s, [.str [c]] => .ok (.str ((s.reverse.dropWhile (· == c)).reverse)) S
  | .split, .str s, [.str [c]] => if s.length < lim then mkLst ((splitS c s).map .str) S else .bad
  | .count, .loc l, [x] => match S[l]? with
    | some (.lst xs) => if x.flat && xs.all D.flat then .ok (.int (xs.countP fun y => D.eqp y x)) S else .bad
    | _ => .bad
  | _, _, _ => .bad
/-- has such a method -/
def mOk (m : Mth) (x : D) (S : St) : Bool := match m with
  | .append | .extend | .pop | .pop1 | .count | .insert => match x with
    | .loc l => (lstAt S l).isSome
    | _ => false
  | .get | .setdefault | .update | .items => match x with
    | .loc l => match S[l]? with
      | some (.dct _) => true
      | _ => false
    | _ => false
  | .split | .lstrip | .rstrip | .join | .replace => match x with
    | .str _ => true
    | _ => false
def mthLD (m : Mth) (a : D) (p : Li) (S : St) : Out D := match m, a with
  | .join, .str s => match strsD p.xs with
    | some ys => if joinOk s ys then .ok (.str (joinS s ys)) S else .bad
    | none => .bad
  | .extend, .loc l => match S[l]? with
    | some (.lst zs) => if p.b && !p.r && decide (zs.length + p.xs.length ≤ lim) then .ok .non (S.set l (.lst (zs ++ p.xs))) else .bad
    | _ => .bad
  | _, _ => .bad
/-- is of the type? -/
def tyIs (sub : Nat → Nat → Bool) (S : St) (d : D) (t : Ty) : Option Bool := match t with
  | .cls c => match d with
    | .loc l => match S[l]? with
      | some (.ins c' _) => some (sub c' c)
      | some (.exn c' _) => some (sub c' c)
      | _ => none
    | _ => none
  | .str => match d with
    | .str _ => some true
    | .loc l => match S[l]? with
      | some (.lst _) => some false
      | some (.dct _) => some false
      | _ => none
    | _ => some false
  | .int => match d with
    | .int _ | .bl _ => some true
    | .loc l => match S[l]? with
      | some (.lst _) => some false
      | some (.dct _) => some false
      | _ => none
    | _ => some false
  | .bool => match d with
    | .bl _ => some true
    | .loc l => match S[l]? with
      | some (.lst _) => some false
      | some (.dct _) => some false
      | _ => none
    | _ => some false
  | .tup => match d with
    | .tup _ => some true
    | .loc l => match S[l]? with
      | some (.lst _) => some false
      | some (.dct _) => some false
      | _ => none
    | _ => some false
def tyAny (sub : Nat → Nat → Bool) (S : St) (d : D) : List Ty → Option Bool
  | [] => some false
  | t :: ts => (tyIs sub S d t).bind fun a => (tyAny sub S d ts).map fun b => a || b
def fmtD (d : D) : Option Sg := match d with
  | .str s => some s
  | .int i => if i.natAbs < 1000000000000000000 then some (strInt i) else none
  | _ => none
def fmtAll : List D → Option Sg
  | [] => some []
  | d :: r => (fmtD d).bind fun s => (fmtAll r).map (s ++ ·)

def asBool (d : D) (S : St) : Out Bool := match d with
  | .bl b => .ok b S
  | _ => .bad
/-- the slots of a block's own names forgotten -/
def wipe (σ : Env) : List Nat → Env
  | [] => σ
  | v :: vs => (wipe σ vs).set v none
/-- a comprehension's turns -/
def compD (g : Gd) (f : D → St → Out (List D)) : List D → St → Out (List D)
  | [], S => if g.ok S then .ok [] S else .bad
  | d :: r, S => if g.ok S then (f d S).bnd fun a S => (compD g f r S).bnd fun as S => .ok (a ++ as) S else .bad
/-- a for's turns -/
def forD (g : Gd) (f : D → Env → St → Out Fl) : List D → Env → St → Out Fl
  | [], σ, S => if g.ok S then .ok (.nx σ) S else .bad
  | d :: r, σ, S => if g.ok S then (f d σ S).bnd fun fl S => match fl with
    | .nx σ => forD g f r σ S
    | .ct σ => forD g f r σ S
    | .bk σ => .ok (.nx σ) S
    | .rt x => .ok (.rt x) S
    | .xc c fs σ => .ok (.xc c fs σ) S else .bad
/-- a while's turns, at most so many -/
def whlD (c : Env → St → Out Bool) (f : Env → St → Out Fl) : Nat → Env → St → Out Fl
  | 0, _, _ => .bad
  | n + 1, σ, S => (c σ S).lft σ fun b S => if b then (f σ S).bnd fun fl S => match fl with
    | .nx σ => whlD c f n σ S
    | .ct σ => whlD c f n σ S
    | .bk σ => .ok (.nx σ) S
    | .rt x => .ok (.rt x) S
    | .xc c fs σ => .ok (.xc c fs σ) S else .ok (.nx σ) S
def rngD (i j : Int) : List D := (List.range (j - i).toNat).map fun k : Nat => .int (i + (k : Int))
def chars (s : Sg) : List D := s.map fun c => .str [c]
/-- classes: their defs by names, what makes them, what stands under what -/
structure Tab where
  fn : Nat → Option Fn
  mt : Nat → Nat → Option Nat
  ini : Nat → Option Nat
  sub : Nat → Nat → Bool
  xf : Nat → List Nat

section
variable (T : Tab) (W : Nat) (cl : Nat → List D → St → Out D)
def newD (c : Nat) (as : List D) (S : St) : Out D := match T.ini c with
  | some f => (cl f (.loc S.length :: as) (S ++ [.ins c []])).bnd fun r S' => match r with
    | .non => .ok (.loc S.length) S'
    | _ => .bad
  | none => .bad
def mcallD (m : Nat) (o : D) (as : List D) (S : St) : Out D := match o with
  | .loc l => match S[l]? with
    | some (.ins c fs) => match T.mt c m, fs.lookup m with
      | some f, none => cl f (o :: as) S
      | _, _ => .bad
    | _ => .bad
  | _ => .bad
def cmpLD (ne : Bool) (xs ys : List D) (S : St) : Out D := if ys.isEmpty || xs.isEmpty then .ok (.bl (if ne then !(xs.isEmpty && ys.isEmpty) else (xs.isEmpty && ys.isEmpty))) S else if D.unds 0 xs && D.unds 0 ys && D.noRs xs && D.noRs ys && decide (D.depths xs < 64) && decide (D.depths ys < 64) then .ok (.bl (if ne then !D.eqps xs ys else D.eqps xs ys)) S else .bad
def optE (o : Option D) (S : St) : Out (Option Int) := okO (optInt o) S
mutual
def evE : E → Env → St → Out D
  | .var i, σ, S => match σ[i]? with
    | some (some d) => .ok d S
    | _ => .bad
  | .cst d, _, S => .ok d S
  | .tup es, σ, S => (evEs es σ S).bnd fun ds S => .ok (.tup ds) S
  | .lst l, σ, S => (evL l σ S).bnd fun p S => if p.b then mkLst p.xs S else .bad
  | .idx a b, σ, S => (evE a σ S).bnd fun x S => (evE b σ S).bnd fun y S => idxD x y S
  | .idxL l b, σ, S => (evL l σ S).bnd fun p S => (evE b σ S).bnd fun y S => match y with
    | .int i => if p.g.ok S then okO (atI p.xs i) S else .bad
    | _ => .bad
  | .sl a lo hi, σ, S => (evE a σ S).bnd fun x S => (evO lo σ S).bnd fun l S => (evO hi σ S).bnd fun h S => slD x l h S
  | .rev a, σ, S => (evE a σ S).bnd fun x S => revD x S
  | .bin op a b, σ, S => (evE a σ S).bnd fun x S => (evE b σ S).bnd fun y S => binD op x y S
  | .neg a, σ, S => (evE a σ S).bnd fun x S => match x with
    | .int i => .ok (.int (-i)) S
    | _ => .bad
  | .cmp op a b, σ, S => (evE a σ S).bnd fun x S => (evE b σ S).bnd fun y S => (cmpD op x y S).bnd fun r S => .ok (.bl r) S
  | .cmpL ne a b, σ, S => (evL a σ S).bnd fun p S => (evL b σ S).bnd fun q S => if p.b && q.b && p.g.ok S then cmpLD ne p.xs q.xs S else .bad
  | .inL neg a l, σ, S => (evE a σ S).bnd fun x S => (evL l σ S).bnd fun q S => (inItems x q.xs S).bnd fun r S => .ok (.bl (if neg then !r else r)) S
  | .isn neg a, σ, S => (evE a σ S).bnd fun x S => .ok (.bl (if neg then !decide (x = .non) else decide (x = .non))) S
  | .chain o p a b c, σ, S => (evE a σ S).bnd fun x S => (evE b σ S).bnd fun y S => (cmpD o x y S).bnd fun r S => if r then (evE c σ S).bnd fun z S => (cmpD p y z S).bnd fun r S => .ok (.bl r) S else .ok (.bl false) S
  | .and a b, σ, S => (evE a σ S).bnd fun x S => (asBool x S).bnd fun r S => if r then evE b σ S else .ok (.bl false) S
  | .or a b, σ, S => (evE a σ S).bnd fun x S => (asBool x S).bnd fun r S => if r then .ok (.bl true) S else evE b σ S
  | .not a, σ, S => (evE a σ S).bnd fun x S => (asBool x S).bnd fun r S => .ok (.bl (!r)) S
  | .ife c a b, σ, S => (evE c σ S).bnd fun x S => (asBool x S).bnd fun r S => if r then evE a σ S else evE b σ S
  | .call f es, σ, S => (evEs es σ S).bnd fun ds S => cl f ds S
  | .new c es, σ, S => (evEs es σ S).bnd fun ds S => newD T cl c ds S
  | .mcall m o es, σ, S => (evE o σ S).bnd fun x S => (evEs es σ S).bnd fun ds S => mcallD T cl m x ds S
  | .attr a f, σ, S => (evE a σ S).bnd fun x S => attrD x f S
  | .blt b es, σ, S => (evEs es σ S).bnd fun ds S => bltD b ds S
  | .bl1 b l, σ, S => (evL l σ S).bnd fun p S => lbD b p S
  | .mth m o es, σ, S => (evE o σ S).bnd fun x S => if mOk m x S then (evEs es σ S).bnd fun ds S => mthD m x ds S else .bad
  | .mthL m o l, σ, S => (evE o σ S).bnd fun x S => if mOk m x S then (evL l σ S).bnd fun p S => mthLD m x p S else .bad
  | .isi a ts, σ, S => (evE a σ S).bnd fun x S => okO ((tyAny T.sub S x ts).map .bl) S
  | .dict0, _, S => .ok (.loc S.length) (S ++ [.dct []])
  | .dcomp k v own t it c, σ, S => (evIt it σ S).bnd fun p S => (compD p.2 (fun d S => (asgT t d (wipe σ own) S).bnd fun σ1 S => (evC c σ1 S).bnd fun r S => if r then
      (evE k σ1 S).bnd fun x S => (evE v σ1 S).bnd fun y S => .ok [.tup [x, y]] S else .ok [] S) p.1 S).bnd fun _ _ => .bad
  | .fstr es, σ, S => (evEs es σ S).bnd fun ds S => match fmtAll ds with
    | some s => mkStr s S
    | none => .bad
def evEs : Es → Env → St → Out (List D)
  | .nil, _, S => .ok [] S
  | .cons e es, σ, S => (evE e σ S).bnd fun x S => (evEs es σ S).bnd fun xs S => .ok (x :: xs) S
def evO : EO → Env → St → Out (Option Int)
  | .none, _, S => .ok none S
  | .some e, σ, S => (evE e σ S).bnd fun x S => match x with
    | .int i => .ok (some i) S
    | _ => .bad
/-- a condition of a comprehension -/
def evC : EO → Env → St → Out Bool
  | .none, _, S => .ok true S
  | .some e, σ, S => (evE e σ S).bnd fun x S => asBool x S
def evL : L → Env → St → Out Li
  | .disp es, σ, S => (evEs es σ S).bnd fun ds S => .ok ⟨true, ds, [], false⟩ S
  | .ofE e, σ, S => (evE e σ S).bnd fun x S => match x with
    | .tup xs => .ok ⟨false, xs, [], false⟩ S
    | .rol xs => .ok ⟨true, xs, [], true⟩ S
    | .loc l => match lstAt S l with
      | some xs => .ok ⟨true, xs, [(l, .lst xs)], false⟩ S
      | none => .bad
    | _ => .bad
  | .add a b, σ, S => (evL a σ S).bnd fun p S => (evL b σ S).bnd fun q S => if p.b == q.b && !p.r && !q.r && p.g.ok S && decide (p.xs.length + q.xs.length ≤ lim) then .ok ⟨p.b, p.xs ++ q.xs, [], false⟩ S else .bad
  | .sl a lo hi, σ, S => (evL a σ S).bnd fun p S => (evO lo σ S).bnd fun l S => (evO hi σ S).bnd fun h S => if p.g.ok S then .ok ⟨p.b, cut p.xs l h, [], false⟩ S else .bad
  | .rev a, σ, S => (evL a σ S).bnd fun p S => if p.b then .ok ⟨true, p.xs.reverse, [], false⟩ S else .bad
  | .comp e own t it c, σ, S => (evIt it σ S).bnd fun p S => (compD p.2 (fun d S => (asgT t d (wipe σ own) S).bnd fun σ1 S => (evC c σ1 S).bnd fun r S => if r then (evE e σ1 S).bnd fun x S => .ok [x] S else .ok [] S) p.1 S).nox.bnd fun xs S => .ok ⟨true, xs, [], false⟩ S
  | .comp2 e own own2 t it c t2 it2 c2, σ, S => (evIt it σ S).bnd fun p S => (compD p.2 (fun d S => (asgT t d (wipe σ own) S).bnd fun σ1 S => (evC c σ1 S).bnd fun r S => if r then
      (evIt it2 σ1 S).bnd fun p2 S => if decide (p.1.length ≤ 1000) && decide (p2.1.length ≤ 1000) then compD p2.2 (fun d S => (asgT t2 d (wipe σ1 own2) S).bnd fun σ2 S => (evC c2 σ2 S).bnd fun r S => if r then (evE e σ2 S).bnd fun x S => .ok [x] S else .ok [] S) p2.1 S else .bad
    else .ok [] S) p.1 S).nox.bnd fun xs S => .ok ⟨true, xs, [], false⟩ S
  | .list l, σ, S => (evL l σ S).bnd fun p S => .ok ⟨true, p.xs, [], false⟩ S
  | .zipL a b, σ, S => (evE a σ S).bnd fun x S => (evE b σ S).bnd fun y S => match itemsOf S x, itemsOf S y with
    | some xs, some ys => .ok ⟨true, (xs.zip ys).map fun p => .tup [p.1, p.2], [], false⟩ S
    | _, _ => .bad
def evIt : It → Env → St → Out (List D × Gd)
  | .e e, σ, S => (evE e σ S).bnd fun x S => match x with
    | .str s => .ok (chars s, []) S
    | .tup xs => .ok (xs, []) S
    | .rol xs => .ok (xs, []) S
    | .loc l => match lstAt S l with
      | some xs => .ok (xs, [(l, .lst xs)]) S
      | none => .bad
    | _ => .bad
  | .l l, σ, S => (evL l σ S).bnd fun p S => .ok (p.xs, p.g) S
  | .rng a, σ, S => (evE a σ S).bnd fun x S => match x with
    | .int i => if -lim ≤ i ∧ i ≤ lim then .ok (rngD 0 i, []) S else .bad
    | _ => .bad
  | .rng2 a b, σ, S => (evE a σ S).bnd fun x S => (evE b σ S).bnd fun y S => match x, y with
    | .int i, .int j => if -lim ≤ i ∧ i ≤ lim ∧ -lim ≤ j ∧ j ≤ lim ∧ j - i ≤ lim then .ok (rngD i j, []) S else .bad
    | _, _ => .bad
  | .enum l, σ, S => (evL l σ S).bnd fun p S => .ok (p.xs.zipIdx.map fun q => .tup [.int q.2, q.1], p.g) S
  | .zip a b, σ, S => (evL a σ S).bnd fun p S => (evL b σ S).bnd fun q S => if p.b == q.b && p.g.ok S then .ok ((p.xs.zip q.xs).map fun r => .tup [r.1, r.2], p.g ++ q.g) S else .bad
def asgT : Tg → D → Env → St → Out Env
  | .v i, d, σ, S => .ok (σ.set i (some d)) S
  | .tup ts, d, σ, S => match itemsOf S d with
    | some xs => (asgTs ts xs σ S).nox
    | none => .bad
  | .idx a b, d, σ, S => (evE a σ S).bnd fun x S => (evE b σ S).bnd fun y S => (setIx x y d S).bnd fun _ S => .ok σ S
  | .attr a f, d, σ, S => (evE a σ S).bnd fun x S => (setAttr x f d S).bnd fun _ S => .ok σ S
def asgTs : Tgs → List D → Env → St → Out Env
  | .nil, ds, σ, S => match ds with
    | [] => .ok σ S
    | _ => .bad
  | .cons t ts, ds, σ, S => match ds with
    | d :: ds => (asgT t d σ S).bnd fun σ S => asgTs ts ds σ S
    | [] => .bad
end
def catches (cs : List Nat) (c : Nat) : Bool := cs.any fun k => T.sub c k
mutual
def exS : S → Env → St → Out Fl
  | .asg t e, σ, S => (evE T cl e σ S).lft σ fun x S => (asgT T cl t x σ S).lft σ fun σ S => .ok (.nx σ) S
  | .aug i op e, σ, S => match σ[i]? with
    | some (some x) => (evE T cl e σ S).lft σ fun y S => (binD op x y S).lft σ fun z S => .ok (.nx (σ.set i (some z))) S
    | _ => .bad
  | .augF a f op e, σ, S => (evE T cl a σ S).lft σ fun o S => (attrD o f S).lft σ fun x S => (evE T cl e σ S).lft σ fun y S => (binD op x y S).lft σ fun z S => (setAttr o f z S).lft σ fun _ S => .ok (.nx σ) S
  | .ex e, σ, S => (evE T cl e σ S).lft σ fun _ S => .ok (.nx σ) S
  | .iff c a b, σ, S => (evE T cl c σ S).lft σ fun x S => (asBool x S).lft σ fun r S => if r then exSs a σ S else exSs b σ S
  | .frr t it b, σ, S => (evIt T cl it σ S).lft σ fun p S => forD p.2 (fun d σ S => (asgT T cl t d σ S).lft σ fun σ S => exSs b σ S) p.1 σ S
  | .whl c b, σ, S => whlD (fun σ S => (evE T cl c σ S).bnd fun x S => asBool x S) (fun σ S => exSs b σ S) W σ S
  | .ret e, σ, S => (evE T cl e σ S).lft σ fun x S => .ok (.rt x) S
  | .retN, _, S => .ok (.rt .non) S
  | .pass, σ, S => .ok (.nx σ) S
  | .brk, σ, S => .ok (.bk σ) S
  | .cnt, σ, S => .ok (.ct σ) S
  | .raise c es, σ, S => (evEs T cl es σ S).lft σ fun ds S => if ds.length = (T.xf c).length then .ok (.xc c ((T.xf c).zip ds) σ) S else .bad
  | .tryx b hs, σ, S => (exSs b σ S).bnd fun fl S => match fl with
    | .xc c fs σ => exHs hs c fs σ S
    | r => .ok r S
  | .fin b f, σ, S => (exSs b σ S).bnd fun fl S => match fl with
    | .nx σ => exSs f σ S
    | .xc c fs σ => (exSs f σ S).bnd fun g S => match g with
      | .nx σ => .ok (.xc c fs σ) S
      | _ => .bad
    | _ => .bad
def exSs : Ss → Env → St → Out Fl
  | .nil, σ, S => .ok (.nx σ) S
  | .cons s ss, σ, S => (exS s σ S).bnd fun fl S => match fl with
    | .nx σ => exSs ss σ S
    | r => .ok r S
def exHs : Hs → Nat → List (Nat × D) → Env → St → Out Fl
  | .nil, c, fs, σ, S => .ok (.xc c fs σ) S
  | .cons cs i b hs, c, fs, σ, S => if catches T cs c then (match i with
      | some i => exSs b (σ.set i (some (.loc S.length))) (S ++ [.exn c fs])
      | none => exSs b σ S)
    else exHs hs c fs σ S
end
end
/-- behind a call: what the call alone made is dropped -/
def gc (S : St) (d : D) (S' : St) : Out D := if (decide (S'.take S.length = S) && d.und S.length) then .ok d S else .ok d S'
def gcX (S : St) (c : Nat) (fs : List (Nat × D)) (S' : St) : Out D := if (decide (S'.take S.length = S) && D.unds S.length (fs.map (·.2))) then .exc c fs S else .exc c fs S'
def runFn (T : Tab) (W : Nat) (cl : Nat → List D → St → Out D) (f : Fn) (as : List D) (S : St) : Out D :=
  if as.length = f.ar then match exSs T W cl f.body (as.map some ++ List.replicate (f.n - f.ar) none) S with
    | .ok (.rt d) S' => gc S d S'
    | .ok (.nx _) S' => gc S .non S'
    | .ok (.xc c fs _) S' => gcX S c fs S'
    | _ => .bad
  else .bad
def call (T : Tab) (W : Nat) : Nat → Nat → List D → St → Out D
  | 0, _, _, _ => .bad
  | n + 1, f, as, S => match T.fn f with
    | some fn => runFn T W (call T W n) fn as S
    | none => .bad
end ML
end
section
set_option linter.all false
set_option maxRecDepth 100000
set_option maxHeartbeats 1000000
/-! MS1: how ML's data stand in the hand layer's heap. -/
namespace MS
open PySem
open L2 (V Hp HO SqL SqT Rd upd upd_same upd_ne RelV Vals TE TA TT TS VK XK Cx Inv PE PT PA PS PSs OpR)

/-- what is fixed for a program: the written part, the classes' addresses, the attributes' names -/
structure Cn where
  K : PySem.W.Frag
  cls : Nat → Addr
  an : Nat → Str

def sg (s : ML.Sg) : Str := ⟨s.toArray⟩
def sgOk (s : ML.Sg) : Prop := (∀ c ∈ s, c < 0x110000) ∧ s.length ≤ ML.lim + 10
def kk : ML.D → Option L2.Key
  | .int i => some (.inl i)
  | .str s => some (.inr (sg s))
  | _ => none

/-- a list that is only read: locked, or the module's own -/
def SqR (K : PySem.W.Frag) (H : Hp) (a : Addr) (xs : List V) : Prop := (∃ o, H a = some (.frz o (.lst xs))) ∨
  ∃ (o : Obj) (its : Array Value) (n : Nat), K.lookup a = some o ∧ o.cls = .type "list" ∧ o.dict = none ∧ o.data = .seq its n ∧ its.size ≤ sizeLine ∧ Vals xs its.toList
theorem SqR.l {K : PySem.W.Frag} {H : Hp} {a : Addr} {xs : List V} (h : SqR K H a xs) : SqL K H a xs := by
  rcases h with ⟨o, h⟩ | h
  · exact .inl (.inr ⟨o, h⟩)
  · exact .inr h
section
variable (c : Cn) (ρ : List Addr) (H : Hp)
mutual
def RD : ML.D → V → Prop
  | .non, v => v = .non
  | .bl b, v => v = .bl b
  | .int i, v => v = .int i
  | .str s, v => v = .str (sg s) ∧ sgOk s
  | .tup ds, v => ds.length ≤ sizeLine ∧ ∃ p vs, v = .ref p ∧ SqT c.K H p vs ∧ RDs ds vs
  | .loc n, v => ∃ p, v = .ref p ∧ ρ[n]? = some p
  | .rol ds, v => ds.length ≤ sizeLine ∧ ∃ p vs, v = .ref p ∧ SqR c.K H p vs ∧ RDs ds vs
def RDs : List ML.D → List V → Prop
  | [], vs => vs = []
  | d :: ds, vs => ∃ v r, vs = v :: r ∧ RD d v ∧ RDs ds r
end
def sgK : ML.D → Prop
  | .str s => sgOk s
  | _ => True
/-- a dict's pairs -/
def RKs : List (ML.D × ML.D) → List (L2.Key × V) → Prop
  | [], r => r = []
  | p :: ps, r => ∃ k v r', r = (k, v) :: r' ∧ kk p.1 = some k ∧ sgK p.1 ∧ RD c ρ H p.2 v ∧ RKs ps r'
/-- an instance's fields -/
def RFs : List (Nat × ML.D) → List (Str × V) → Prop
  | [], r => r = []
  | p :: ps, r => ∃ v r', r = (c.an p.1, v) :: r' ∧ RD c ρ H p.2 v ∧ RFs ps r'
def RO : ML.O → Addr → Prop
  | .lst xs, p => xs.length ≤ sizeLine ∧ ∃ vs, H p = some (.lst vs) ∧ RDs c ρ H xs vs
  | .dct kvs, p => ∃ r, H p = some (.dK r) ∧ (kvs.map (·.1)).Nodup ∧ RKs c ρ H kvs r
  | .ins k fs, p => ∃ dx r, H p = some (.ins (c.cls k) dx r) ∧ RFs c ρ H fs r
  | .exn _ _, _ => False
/-- the store stands at the addresses ρ -/
structure RS (S : ML.St) : Prop where
  len : ρ.length = S.length
  nd : ρ.Nodup
  obj : ∀ (i : Nat) o p, S[i]? = some o → ρ[i]? = some p → RO c ρ H o p
/-- the slots -/
def RE (σ : ML.Env) (τ : L2.St) : Prop := σ.length = τ.length ∧ ∀ (i : Nat) d, σ[i]? = some (some d) → ∃ v, τ[i]? = some (some v) ∧ RD c ρ H d v
end
/-- from one state to a later one: new places behind, what isn't ours stays -/
structure Fr (ρ : List Addr) (H : Hp) (ρ' : List Addr) (H' : Hp) : Prop where
  ext : ∃ t, ρ' = ρ ++ t ∧ ∀ p ∈ t, H p = none ∧ p ∉ ρ
  keep : ∀ a o, a ∉ ρ → H a = some o → H' a = some o
theorem Fr.refl {ρ : List Addr} {H : Hp} : Fr ρ H ρ H := ⟨⟨[], by simp, by simp⟩, fun _ _ _ e => e⟩
theorem Fr.trans {ρ ρ1 ρ2 : List Addr} {H H1 H2 : Hp} (a : Fr ρ H ρ1 H1) (b : Fr ρ1 H1 ρ2 H2) : Fr ρ H ρ2 H2 := by
  obtain ⟨t1, e1, n1⟩ := a.ext
  obtain ⟨t2, e2, n2⟩ := b.ext
  subst e1 e2
  have k : ∀ x o, x ∉ ρ → H x = some o → x ∉ ρ ++ t1 := fun x o hx e hm => by
    rcases List.mem_append.mp hm with h | h
    · exact hx h
    · rw [(n1 x h).1] at e; cases e
  refine ⟨⟨t1 ++ t2, by simp, fun p hp => ?_⟩, fun x o hx e => b.keep x o (k x o hx e) (a.keep x o hx e)⟩
  rcases List.mem_append.mp hp with h | h
  · exact n1 p h
  · obtain ⟨q1, q2⟩ := n2 p h
    have hx : p ∉ ρ := fun z => q2 (List.mem_append_left _ z)
    refine ⟨?_, hx⟩
    cases e : H p with
    | none => rfl
    | some o => rw [a.keep p o hx e] at q1; cases q1
theorem Fr.drop {ρ ρ' : List Addr} {H H' : Hp} (a : Fr ρ H ρ' H') : Fr ρ H ρ H' := ⟨⟨[], by simp, by simp⟩, a.keep⟩
/-- a new object that is not ours -/
theorem Fr.new {ρ : List Addr} {H : Hp} {p : Addr} {o : HO} (h : H p = none) : Fr ρ H ρ (upd H p o) := ⟨⟨[], by simp, by simp⟩, fun a u _ e => by rw [upd_ne (L2.ne_of_none e h)]; exact e⟩
/-- an own object is changed -/
theorem Fr.wr {ρ : List Addr} {H : Hp} {p : Addr} {o : HO} (h : p ∈ ρ) : Fr ρ H ρ (upd H p o) := ⟨⟨[], by simp, by simp⟩, fun a u ha e => by
  have ne : a ≠ p := fun z => by subst z; exact ha h
  rw [upd_ne ne]; exact e⟩
/-- a new object that is ours from now on -/
theorem Fr.own {ρ : List Addr} {H : Hp} {p : Addr} {o : HO} (h : H p = none) (hp : p ∉ ρ) : Fr ρ H (ρ ++ [p]) (upd H p o) := ⟨⟨[p], rfl, fun q hq => by
  have e : q = p := by simpa using hq
  subst e; exact ⟨h, hp⟩⟩, fun a u _ e => by rw [upd_ne (L2.ne_of_none e h)]; exact e⟩

section
variable {c : Cn} {ρ ρ' : List Addr} {H H' : Hp} {S S' : ML.St}
/-- no tuple is ours -/
theorem RO.noT {o : ML.O} {p : Addr} (h : RO c ρ H o p) : (∀ ts, H p ≠ some (.tup ts)) ∧ (∀ o ts, H p ≠ some (.frz o ts)) ∧ H p ≠ none := by
  cases o with
  | lst xs => obtain ⟨_, vs, e, _⟩ := h; rw [e]; exact ⟨(fun _ z => by injection z with z; cases z), (fun _ _ z => by injection z with z; cases z), fun z => nomatch z⟩
  | dct xs => obtain ⟨vs, e, _, _⟩ := h; rw [e]; exact ⟨(fun _ z => by injection z with z; cases z), (fun _ _ z => by injection z with z; cases z), fun z => nomatch z⟩
  | ins k xs => obtain ⟨d, vs, e, _⟩ := h; rw [e]; exact ⟨(fun _ z => by injection z with z; cases z), (fun _ _ z => by injection z with z; cases z), fun z => nomatch z⟩
  | exn _ _ => exact h.elim
theorem RS.at_ (h : RS c ρ H S) {p : Addr} (hp : p ∈ ρ) : ∃ (i : Nat) (o : ML.O), ρ[i]? = some p ∧ S[i]? = some o ∧ RO c ρ H o p := by
  obtain ⟨i, hi, e⟩ := List.getElem_of_mem hp
  have e1 : ρ[i]? = some p := by rw [List.getElem?_eq_getElem hi, e]
  have hi' : i < S.length := by rw [← h.len]; exact hi
  exact ⟨i, S[i], e1, List.getElem?_eq_getElem hi', h.obj i _ p (List.getElem?_eq_getElem hi') e1⟩
theorem RS.noT (h : RS c ρ H S) {a : Addr} {xs : List V} (hq : Rd H a (.tup xs)) : a ∉ ρ := fun hp => by
  obtain ⟨i, o, _, _, r⟩ := h.at_ hp
  obtain ⟨n1, n2, _⟩ := r.noT
  rcases hq with q | ⟨ob, q⟩
  · exact n1 _ q
  · exact n2 _ _ q
theorem RS.sqT (h : RS c ρ H S) (f : Fr ρ H ρ' H') {a : Addr} {xs : List V} (hq : SqT c.K H a xs) : SqT c.K H' a xs := by
  rcases hq with hq | hq
  · refine .inl ?_
    have n := h.noT hq
    rcases hq with q | ⟨ob, q⟩
    · exact .inl (f.keep _ _ n q)
    · exact .inr ⟨ob, f.keep _ _ n q⟩
  · exact .inr hq
theorem RS.sqR (h : RS c ρ H S) (f : Fr ρ H ρ' H') {a : Addr} {xs : List V} (hq : SqR c.K H a xs) : SqR c.K H' a xs := by
  rcases hq with ⟨o, q⟩ | hq
  · refine .inl ⟨o, f.keep _ _ (fun hp => ?_) q⟩
    obtain ⟨i, ob, _, _, r⟩ := h.at_ hp
    exact r.noT.2.1 _ _ q
  · exact .inr hq
mutual
theorem RD.mono (h : RS c ρ H S) (f : Fr ρ H ρ' H') : ∀ (d : ML.D) (v : V), RD c ρ H d v → RD c ρ' H' d v
  | .non, _, r => by simpa [RD] using r
  | .bl _, _, r => by simpa [RD] using r
  | .int _, _, r => by simpa [RD] using r
  | .str _, _, r => by simpa [RD] using r
  | .tup ds, v, r => by
    simp only [RD] at r ⊢
    obtain ⟨z, p, vs, e, q, rs⟩ := r
    exact ⟨z, p, vs, e, h.sqT f q, RDs.mono h f ds vs rs⟩
  | .loc n, v, r => by
    simp only [RD] at r ⊢
    obtain ⟨p, e, q⟩ := r
    obtain ⟨t, e1, _⟩ := f.ext
    refine ⟨p, e, ?_⟩
    rw [e1, List.getElem?_append_left (List.getElem?_eq_some_iff.mp q).1]
    exact q
  | .rol ds, v, r => by
    simp only [RD] at r ⊢
    obtain ⟨z, p, vs, e, q, rs⟩ := r
    exact ⟨z, p, vs, e, h.sqR f q, RDs.mono h f ds vs rs⟩
theorem RDs.mono (h : RS c ρ H S) (f : Fr ρ H ρ' H') : ∀ (d : List ML.D) (v : List V), RDs c ρ H d v → RDs c ρ' H' d v
  | [], _, r => by simpa [RDs] using r
  | d :: ds, v, r => by
    simp only [RDs] at r ⊢
    obtain ⟨w, q, e, r1, r2⟩ := r
    exact ⟨w, q, e, RD.mono h f d w r1, RDs.mono h f ds q r2⟩
end
theorem RKs.mono (h : RS c ρ H S) (f : Fr ρ H ρ' H') : ∀ {d : List (ML.D × ML.D)} {v : List (L2.Key × V)}, RKs c ρ H d v → RKs c ρ' H' d v
  | [], _, r => r
  | p :: ps, _, ⟨k, v, r', e, e1, e2, r1, r2⟩ => ⟨k, v, r', e, e1, e2, RD.mono h f _ _ r1, RKs.mono h f r2⟩
theorem RFs.mono (h : RS c ρ H S) (f : Fr ρ H ρ' H') : ∀ {d : List (Nat × ML.D)} {v : List (Str × V)}, RFs c ρ H d v → RFs c ρ' H' d v
  | [], _, r => r
  | p :: ps, _, ⟨v, r', e, r1, r2⟩ => ⟨v, r', e, RD.mono h f _ _ r1, RFs.mono h f r2⟩
theorem RE.mono (h : RS c ρ H S) (f : Fr ρ H ρ' H') {σ : ML.Env} {τ : L2.St} (r : RE c ρ H σ τ) : RE c ρ' H' σ τ :=
  ⟨r.1, fun i d e => let ⟨v, e1, r1⟩ := r.2 i d e; ⟨v, e1, RD.mono h f d v r1⟩⟩
/-- an own object is as it was, but for what else became of the heap -/
theorem RO.mono (h : RS c ρ H S) (f : Fr ρ H ρ' H') {o : ML.O} {p : Addr} (r : RO c ρ H o p) (e : H' p = H p) : RO c ρ' H' o p := by
  cases o with
  | lst xs => obtain ⟨z, vs, e1, r⟩ := r; exact ⟨z, vs, e.trans e1, RDs.mono h f _ _ r⟩
  | dct xs => obtain ⟨vs, e1, nd, r⟩ := r; exact ⟨vs, e.trans e1, nd, r.mono h f⟩
  | ins k xs => obtain ⟨d, vs, e1, r⟩ := r; exact ⟨d, vs, e.trans e1, r.mono h f⟩
  | exn _ _ => exact r.elim
/-- a new object that is not ours: all stands -/
theorem RS.new (h : RS c ρ H S) {p : Addr} {o : HO} (hp : H p = none) : RS c ρ (upd H p o) S :=
  have hn : p ∉ ρ := fun z => by
    obtain ⟨i, o, _, _, r⟩ := h.at_ z
    exact r.noT.2.2 hp
  ⟨h.len, h.nd, fun i ob q e1 e2 => (h.obj i ob q e1 e2).mono h (Fr.new hp) (upd_ne (fun z => by subst z; exact hn (List.mem_of_getElem? e2)))⟩
/-- an own object is changed -/
theorem RS.wr (h : RS c ρ H S) {p : Addr} {ho : HO} {i : Nat} {o : ML.O} (hi : ρ[i]? = some p) (r : RO c ρ (upd H p ho) o p) : RS c ρ (upd H p ho) (S.set i o) := by
  refine ⟨by rw [h.len, List.length_set], h.nd, fun j ob q e1 e2 => ?_⟩
  by_cases e : i = j
  · subst e
    rw [hi] at e2; cases e2
    have hl : i < S.length := by rw [← h.len]; exact (List.getElem?_eq_some_iff.mp hi).1
    rw [List.getElem?_set_self hl] at e1; cases e1
    exact r
  · rw [List.getElem?_set_ne e] at e1
    refine (h.obj j ob q e1 e2).mono h (Fr.wr (List.mem_of_getElem? hi)) (upd_ne fun z => e ?_)
    subst z
    obtain ⟨h1, q1⟩ := List.getElem?_eq_some_iff.mp hi
    obtain ⟨h2, q2⟩ := List.getElem?_eq_some_iff.mp e2
    exact (List.getElem_inj h.nd).mp (q1.trans q2.symm)
/-- a new own object -/
theorem RS.own (h : RS c ρ H S) {p : Addr} {ho : HO} {o : ML.O} (hp : H p = none) (hn : p ∉ ρ) (r : RO c (ρ ++ [p]) (upd H p ho) o p) : RS c (ρ ++ [p]) (upd H p ho) (S ++ [o]) := by
  refine ⟨by rw [List.length_append, List.length_append, h.len, List.length_singleton, List.length_singleton], ?_, fun j ob q e1 e2 => ?_⟩
  · rw [List.nodup_append]
    exact ⟨h.nd, by simp, fun a ha b hb z => hn (by have e : b = p := by simpa using hb
                                                    rw [← e, ← z]; exact ha)⟩
  · by_cases hj : j < S.length
    · rw [List.getElem?_append_left hj] at e1
      rw [List.getElem?_append_left (by rw [h.len]; exact hj)] at e2
      exact (h.obj j ob q e1 e2).mono h (Fr.own hp hn) (upd_ne (fun z => by subst z; exact hn (List.mem_of_getElem? e2)))
    · have hj' : S.length ≤ j := Nat.le_of_not_lt hj
      rw [List.getElem?_append_right hj'] at e1
      rw [List.getElem?_append_right (by rw [h.len]; exact hj')] at e2
      have e0 : j - S.length = 0 := by
        have := (List.getElem?_eq_some_iff.mp e1).1
        simp at this
        omega
      rw [h.len] at e2
      rw [e0] at e1 e2
      simp at e1 e2
      subst e1 e2
      exact r
theorem RS.fresh (h : RS c ρ H S) {p : Addr} (hp : H p = none) : p ∉ ρ := fun z => by
  obtain ⟨i, o, _, _, r⟩ := h.at_ z
  exact r.noT.2.2 hp
/-! ### closed -/
mutual
theorem RD.und : ∀ (d : ML.D) (v : V), RD c ρ H d v → d.und ρ.length = true
  | .non, _, _ => by simp [ML.D.und]
  | .bl _, _, _ => by simp [ML.D.und]
  | .int _, _, _ => by simp [ML.D.und]
  | .str _, _, _ => by simp [ML.D.und]
  | .tup ds, v, r => by
    simp only [RD] at r
    obtain ⟨_, p, vs, _, _, rs⟩ := r
    simpa [ML.D.und] using RDs.unds ds vs rs
  | .loc n, v, r => by
    simp only [RD] at r
    obtain ⟨p, _, q⟩ := r
    simpa [ML.D.und] using (List.getElem?_eq_some_iff.mp q).1
  | .rol ds, v, r => by
    simp only [RD] at r
    obtain ⟨_, p, vs, _, _, rs⟩ := r
    simpa [ML.D.und] using RDs.unds ds vs rs
theorem RDs.unds : ∀ (d : List ML.D) (v : List V), RDs c ρ H d v → ML.D.unds ρ.length d = true
  | [], _, _ => by simp [ML.D.unds]
  | d :: ds, v, r => by
    simp only [RDs] at r
    obtain ⟨w, q, _, r1, r2⟩ := r
    simp [ML.D.unds, RD.und d w r1, RDs.unds ds q r2]
end
mutual
theorem RD.cut {t : List Addr} : ∀ (d : ML.D) (v : V), RD c (ρ ++ t) H d v → d.und ρ.length = true → RD c ρ H d v
  | .non, _, r, _ => by simpa [RD] using r
  | .bl _, _, r, _ => by simpa [RD] using r
  | .int _, _, r, _ => by simpa [RD] using r
  | .str _, _, r, _ => by simpa [RD] using r
  | .tup ds, v, r, u => by
    simp only [RD] at r ⊢
    obtain ⟨z, p, vs, e, q, rs⟩ := r
    exact ⟨z, p, vs, e, q, RDs.cut ds vs rs (by simpa [ML.D.und] using u)⟩
  | .loc n, v, r, u => by
    simp only [RD] at r ⊢
    obtain ⟨p, e, q⟩ := r
    refine ⟨p, e, ?_⟩
    rw [List.getElem?_append_left (by simpa [ML.D.und] using u)] at q
    exact q
  | .rol ds, v, r, u => by
    simp only [RD] at r ⊢
    obtain ⟨z, p, vs, e, q, rs⟩ := r
    exact ⟨z, p, vs, e, q, RDs.cut ds vs rs (by simpa [ML.D.und] using u)⟩
theorem RDs.cut {t : List Addr} : ∀ (d : List ML.D) (v : List V), RDs c (ρ ++ t) H d v → ML.D.unds ρ.length d = true → RDs c ρ H d v
  | [], _, r, _ => by simpa [RDs] using r
  | d :: ds, v, r, u => by
    simp only [RDs] at r ⊢
    obtain ⟨w, q, e, r1, r2⟩ := r
    simp only [ML.D.unds, Bool.and_eq_true] at u
    exact ⟨w, q, e, RD.cut d w r1 u.1, RDs.cut ds q r2 u.2⟩
end
end
end MS
end
section
set_option linter.all false
set_option maxRecDepth 100000
set_option maxHeartbeats 1000000
/-! MS2: what an ML run promises of the hand layer's readings; expressions. -/
namespace MS
open PySem
open L2 (V Hp HO SqL SqT Rd upd upd_same upd_ne RelV Vals TE TA TT TS VK XK WX Cx Inv PE PT PA PS PSs OpR)

abbrev XW := Nat → List (Nat × ML.D) → ML.St → List Addr → Hp → Prop
/-- an ML run's end, wherever it stands in the heap -/
def Pst {α : Type} (c : Cn) (w : XW) (ρ : List Addr) (H : Hp) (x : ML.Out α) (k : α → ML.St → List Addr → Hp → Prop) : Prop := match x with
  | .ok a S => ∀ ρ' H', Fr ρ H ρ' H' → RS c ρ' H' S → k a S ρ' H'
  | .exc n fs S => ∀ ρ' H', Fr ρ H ρ' H' → RS c ρ' H' S → w n fs S ρ' H'
  | .bad => False
/-- an exception's fields -/
def RX (c : Cn) (ρ : List Addr) (H : Hp) (fs : List (Nat × ML.D)) (d : Option Addr) : Prop := match d with
  | none => fs = []
  | some a => ∃ r, H a = some (.xd r) ∧ a ∉ ρ ∧ RFs c ρ H fs r
def Wsh (c : Cn) (W : WX) (τ : L2.St) : XW := fun n fs S ρ H => ∀ d, RX c ρ H fs d → W (.ref (c.cls n)) d τ H
section
variable {α β : Type} {c : Cn} {w : XW} {ρ ρ1 : List Addr} {H H1 : Hp} {S : ML.St} {k k' : α → ML.St → List Addr → Hp → Prop}
theorem Pst.mono {x : ML.Out α} (h : Pst c w ρ H x k) (f : ∀ a S ρ' H', Fr ρ H ρ' H' → RS c ρ' H' S → k a S ρ' H' → k' a S ρ' H') : Pst c w ρ H x k' := by
  cases x with
  | ok a S => exact fun ρ' H' e r => f _ _ _ _ e r (h ρ' H' e r)
  | exc n fs S => exact h
  | bad => exact h
theorem Pst.at_ {x : ML.Out α} (h : Pst c w ρ H x k) (f : Fr ρ H ρ1 H1) : Pst c w ρ1 H1 x k := by
  cases x with
  | ok a S => exact fun ρ' H' e r => h ρ' H' (f.trans e) r
  | exc n fs S => exact fun ρ' H' e r => h ρ' H' (f.trans e) r
  | bad => exact h
theorem Pst.bnd {x : ML.Out β} {g : β → ML.St → ML.Out α} (h : Pst c w ρ H (x.bnd g) k) : Pst c w ρ H x fun a S ρ' H' => Pst c w ρ' H' (g a S) k := by
  cases x with
  | ok a S => exact fun ρ' H' e r => Pst.at_ h e
  | exc n fs S => exact h
  | bad => exact h
theorem Pst.ok {a : α} (h : Pst c w ρ H (.ok a S) k) (r : RS c ρ H S) : k a S ρ H := h ρ H Fr.refl r
theorem Pst.of_ok {a : α} (h : ∀ ρ' H', Fr ρ H ρ' H' → RS c ρ' H' S → k a S ρ' H') : Pst c w ρ H (.ok a S) k := h
theorem Pst.okO {o : Option α} (h : Pst c w ρ H (ML.okO o S) k) : ∃ a, o = some a ∧ Pst c w ρ H (.ok a S) k := by
  cases o with
  | none => exact h.elim
  | some a => exact ⟨a, rfl, h⟩
end

section
variable (c : Cn) (W : WX)
/-- readings of ML runs: a value's, a truth's, several values', a place's -/
def tE (f : ML.Env → ML.St → ML.Out ML.D) : TE := fun τ H Q => ∃ ρ S σ, RS c ρ H S ∧ RE c ρ H σ τ ∧ Pst c (Wsh c W τ) ρ H (f σ S) fun d S' ρ' H' => ∀ v, RD c ρ' H' d v → Q v H'
def tT (f : ML.Env → ML.St → ML.Out Bool) : TT := fun τ H Q => ∃ ρ S σ, RS c ρ H S ∧ RE c ρ H σ τ ∧ Pst c (Wsh c W τ) ρ H (f σ S) fun d S' ρ' H' => Q d H'
def tA (f : ML.Env → ML.St → ML.Out (List ML.D)) : TA := fun τ H Q => ∃ ρ S σ, RS c ρ H S ∧ RE c ρ H σ τ ∧ Pst c (Wsh c W τ) ρ H (f σ S) fun d S' ρ' H' => ∀ v, RDs c ρ' H' d v → Q v H'
end
section
variable {X : Cx} {c : Cn} {W : WX}
theorem PE.mono {e : Expr} {t t' : TE} (h : PE X e t) (f : ∀ τ H Q, t' τ H Q → t τ H Q) : PE X e t' := ⟨fun pins s σ H Q I q => h.run pins s σ H Q I (f σ H Q q)⟩
theorem PT.mono {e : Expr} {t t' : TT} (h : PT X e t) (f : ∀ τ H Q, t' τ H Q → t τ H Q) : PT X e t' := ⟨fun pins s σ H Q I q => h.run pins s σ H Q I (f σ H Q q)⟩
theorem PA.mono {e : List Expr} {t t' : TA} (h : PA X e t) (f : ∀ τ H Q, t' τ H Q → t τ H Q) : PA X e t' := ⟨fun pos pins s σ H Q I q => h.run pos pins s σ H Q I (f σ H Q q)⟩

variable {a b e : Expr} {es : List Expr} {fa fb fc : ML.Env → ML.St → ML.Out ML.D} {fl : ML.Env → ML.St → ML.Out (List ML.D)} {pos : Pos}
theorem e_var {i : Nat} {x : Str} (hN : X.N[i]? = some x) (hv : L2.Vis X.env.scope x) (hd : (x == ("__debug__" : Str)) = false) (hcd : (x == ("__classdict__" : Str)) = false) :
    PE X (.Name x pos) (tE c W fun σ S => match σ[i]? with
      | some (some d) => .ok d S
      | _ => .bad) := PE.mono (L2.pe_var hN hv hd hcd) fun τ H Q h => by
  obtain ⟨ρ, S, σ, rs, re, p⟩ := h
  dsimp only at p
  cases e : σ[i]? with
  | none => rw [e] at p; exact p.elim
  | some o =>
    cases o with
    | none => rw [e] at p; exact p.elim
    | some d =>
      rw [e] at p
      obtain ⟨v, e1, r⟩ := re.2 i d e
      exact ⟨v, e1, p.ok rs v r⟩
theorem e_tC {v : V} {d : ML.D} {e : Expr} (h : PE X e (L2.tC v)) (r : ∀ ρ H, RD c ρ H d v) : PE X e (tE c W fun _ S => .ok d S) := PE.mono h fun τ H Q h => by
  obtain ⟨ρ, S, σ, rs, re, p⟩ := h
  exact p.ok rs v (r ρ H)
/-- arguments -/
theorem a_nil : PA X [] (tA c W fun _ S => .ok [] S) := PA.mono L2.pa_nil fun τ H Q h => by
  obtain ⟨ρ, S, σ, rs, re, p⟩ := h
  exact p.ok rs [] (by simp [RDs])
theorem starEach_cons {e : Expr} {es : List Expr} {env : Env} (h : ∀ x p, e ≠ .Starred x p) : starEach (e :: es) env = (false, eval e env) :: starEach es env := by
  cases e <;> first | rfl | exact absurd rfl (h _ _)
theorem a_cons (h : ∀ x p, e ≠ .Starred x p) (ha : PE X e (tE c W fa)) (hs : PA X es (tA c W fl)) : PA X (e :: es) (tA c W fun σ S => (fa σ S).bnd fun x S => (fl σ S).bnd fun xs S => .ok (x :: xs) S) :=
  PA.mono (L2.pa_cons ha hs (starEach_cons h)) fun τ H Q h => by
    obtain ⟨ρ, S, σ, rs, re, p⟩ := h
    refine ⟨ρ, S, σ, rs, re, p.bnd.mono fun d S1 ρ1 H1 f1 rs1 p1 v rv => ?_⟩
    refine ⟨ρ1, S1, σ, rs1, re.mono rs f1, p1.bnd.mono fun ds S2 ρ2 H2 f2 rs2 p2 vs rvs => ?_⟩
    exact p2.ok rs2 (v :: vs) (by simp only [RDs]; exact ⟨v, vs, rfl, RD.mono rs1 f2 d v rv, rvs⟩)

/-! ### operators by values -/
def rB (c : Cn) (f : ML.D → ML.D → ML.St → ML.Out ML.D) : L2.R2 := fun x y H Q => ∃ ρ S w d1 d2, RS c ρ H S ∧ RD c ρ H d1 x ∧ RD c ρ H d2 y ∧ Pst c w ρ H (f d1 d2 S) fun d S' ρ' H' => ∀ v, RD c ρ' H' d v → Q v H'
theorem e_op {f : ML.D → ML.D → ML.St → ML.Out ML.D} {op : Operator} (ho : OpR X (binaryOp op) (rB c f)) (ha : PE X a (tE c W fa)) (hb : PE X b (tE c W fb)) :
    PE X (.BinOp a op b pos) (tE c W fun σ S => (fa σ S).bnd fun x S => (fb σ S).bnd fun y S => f x y S) := PE.mono (L2.pe_op ho ha hb) fun τ H Q h => by
  obtain ⟨ρ, S, σ, rs, re, p⟩ := h
  refine ⟨ρ, S, σ, rs, re, p.bnd.mono fun d1 S1 ρ1 H1 f1 rs1 p1 v1 r1 => ?_⟩
  refine ⟨ρ1, S1, σ, rs1, re.mono rs f1, p1.bnd.mono fun d2 S2 ρ2 H2 f2 rs2 p2 v2 r2 => ?_⟩
  exact ⟨ρ2, S2, _, d1, d2, rs2, RD.mono rs1 f2 d1 v1 r1, r2, p2⟩
end
end MS
end
section
set_option linter.all false
set_option maxRecDepth 100000
set_option maxHeartbeats 1000000
/-! MS3: operators by values. -/
namespace MS
open PySem
open L2 (V Hp HO SqL SqT Rd upd upd_same upd_ne RelV Vals TE TA TT TS VK XK WX Cx Inv PE PT PA PS PSs OpR)
section
variable {X : Cx} {c : Cn}
theorem lim_line {n : Nat} (h : n ≤ ML.lim) : n ≤ sizeLine := Nat.le_trans h (by decide)
theorem sg_len (s : ML.Sg) : (sg s).length = s.length := by simp [sg, Str.length]
theorem sg_app (x y : ML.Sg) : sg (x ++ y) = sg x ++ sg y := by
  show (⟨(x ++ y).toArray⟩ : Str) = ⟨x.toArray ++ y.toArray⟩
  simp
theorem sgOk.app {x y : ML.Sg} (h1 : sgOk x) (h2 : sgOk y) (h : (x ++ y).length ≤ ML.lim) : sgOk (x ++ y) :=
  ⟨fun c hc => (List.mem_append.mp hc).elim (h1.1 c) (h2.1 c), by omega⟩
theorem sgOk.line {x : ML.Sg} (h : sgOk x) : (sg x).length ≤ sizeLine := by rw [sg_len]; exact Nat.le_trans h.2 (by decide)
theorem RDs.len {ρ : List Addr} {H : Hp} : ∀ {ds : List ML.D} {vs : List V}, RDs c ρ H ds vs → ds.length = vs.length
  | [], _, r => by simp only [RDs] at r; subst r; rfl
  | d :: ds, vs, r => by
    simp only [RDs] at r
    obtain ⟨w, q, e, _, r2⟩ := r
    subst e
    simp [r2.len]
theorem RDs.app {ρ : List Addr} {H : Hp} : ∀ {ds es : List ML.D} {vs ws : List V}, RDs c ρ H ds vs → RDs c ρ H es ws → RDs c ρ H (ds ++ es) (vs ++ ws)
  | [], _, _, _, r, q => by simp only [RDs] at r; subst r; exact q
  | d :: ds, es, vs, ws, r, q => by
    simp only [RDs] at r
    obtain ⟨w, l, e, r1, r2⟩ := r
    subst e
    simp only [List.cons_append, RDs]
    exact ⟨w, l ++ ws, rfl, r1, r2.app q⟩
theorem RDs.get {ρ : List Addr} {H : Hp} : ∀ {ds : List ML.D} {vs : List V} {i : Nat} {d : ML.D}, RDs c ρ H ds vs → ds[i]? = some d → ∃ v, vs[i]? = some v ∧ RD c ρ H d v
  | [], _, _, _, _, e => by simp at e
  | d :: ds, vs, 0, d', r, e => by
    simp only [RDs] at r
    obtain ⟨w, l, e1, r1, r2⟩ := r
    subst e1
    simp at e; subst e
    exact ⟨w, rfl, r1⟩
  | d :: ds, vs, i + 1, d', r, e => by
    simp only [RDs] at r
    obtain ⟨w, l, e1, r1, r2⟩ := r
    subst e1
    simp at e
    obtain ⟨v, h1, h2⟩ := r2.get e
    exact ⟨v, by simpa using h1, h2⟩
/-- a new tuple, a new list of ours -/
theorem Pst.tup {w : XW} {ρ : List Addr} {H : Hp} {S : ML.St} {xs : List ML.D} {vs : List V} {Q : VK} (p : Pst c w ρ H (.ok (.tup xs) S) fun d S' ρ' H' => ∀ v, RD c ρ' H' d v → Q v H') (rs : RS c ρ H S)
    (r : RDs c ρ H xs vs) (hz : xs.length ≤ sizeLine) : ∀ a, H a = none → Q (.ref a) (upd H a (.tup vs)) := fun a ha => by
  refine p ρ _ (Fr.new ha) (rs.new ha) (.ref a) ?_
  simp only [RD]
  exact ⟨hz, a, vs, rfl, .inl (.inl upd_same), r.mono rs (Fr.new ha)⟩
theorem Pst.lst {w : XW} {ρ : List Addr} {H : Hp} {S : ML.St} {xs : List ML.D} {vs : List V} {Q : VK} (p : Pst c w ρ H (ML.mkLst xs S) fun d S' ρ' H' => ∀ v, RD c ρ' H' d v → Q v H') (rs : RS c ρ H S)
    (r : RDs c ρ H xs vs) : xs.length ≤ ML.lim ∧ ∀ a, H a = none → Q (.ref a) (upd H a (.lst vs)) := by
  unfold ML.mkLst at p
  by_cases hz : xs.length ≤ ML.lim
  · rw [if_pos hz] at p
    refine ⟨hz, fun a ha => ?_⟩
    have hn := rs.fresh ha
    refine p (ρ ++ [a]) _ (Fr.own ha hn) (rs.own ha hn ⟨lim_line hz, vs, upd_same, r.mono rs (Fr.own ha hn)⟩) (.ref a) ?_
    simp only [RD]
    exact ⟨a, rfl, by rw [← rs.len]; simp⟩
  · rw [if_neg hz] at p
    exact p.elim
theorem RS.lst {ρ : List Addr} {H : Hp} {S : ML.St} (rs : RS c ρ H S) {l : Nat} {xs : List ML.D} {v : V} (h : S[l]? = some (.lst xs)) (r : RD c ρ H (.loc l) v) : ∃ a vs, v = .ref a ∧ ρ[l]? = some a ∧ H a = some (.lst vs) ∧ RDs c ρ H xs vs ∧ xs.length ≤ sizeLine := by
  simp only [RD] at r
  obtain ⟨a, e, q⟩ := r
  obtain ⟨z, vs, e1, r1⟩ := rs.obj l _ a h q
  exact ⟨a, vs, e, q, e1, r1, z⟩
theorem RS.dct {ρ : List Addr} {H : Hp} {S : ML.St} (rs : RS c ρ H S) {l : Nat} {xs : List (ML.D × ML.D)} {v : V} (h : S[l]? = some (.dct xs)) (r : RD c ρ H (.loc l) v) : ∃ a vs, v = .ref a ∧ ρ[l]? = some a ∧ H a = some (.dK vs) ∧ (xs.map (·.1)).Nodup ∧ RKs c ρ H xs vs := by
  simp only [RD] at r
  obtain ⟨a, e, q⟩ := r
  obtain ⟨vs, e1, nd, r1⟩ := rs.obj l _ a h q
  exact ⟨a, vs, e, q, e1, nd, r1⟩
/-- () + t -/
theorem op_catT0 : OpR X (binaryOp .Add) (fun x y H Q => ∃ a b ys, x = .ref a ∧ y = .ref b ∧ SqT X.K H a [] ∧ SqT X.K H b ys ∧ Q (.ref b) H) := by
  intro pins s σ H x y v u Q I rx ry h
  obtain ⟨a, b, ys, rfl, rfl, ha, hb, q⟩ := h
  cases rx
  cases ry
  obtain ⟨its, r1, p1, _⟩ := I.tuple ha
  obtain ⟨its2, r2, p2, _⟩ := I.tuple hb
  obtain ⟨⟨cls, dd, data, sl⟩, ho, hc, n, hd⟩ := id p1
  obtain ⟨⟨cls2, dd2, data2, sl2⟩, ho2, hc2, n2, hd2⟩ := id p2
  simp only at hc hd hc2 hd2
  subst hc hd hc2 hd2
  have e0 : its = [] := by cases r1; rfl
  subst e0
  exact concat_meets ⟨_, ho, rfl⟩ ⟨_, ho2, rfl⟩ noFill_tuple_add seq_tuple_add PySem.F.slot_tuple_add PySem.F.entry_tuple_add (PySem.F.args_tuple_add_2 _ _)
    (PyProof.Rows.tuple_addW0 a b _ its2.toArray n n2 dd dd2 sl sl2 (by simp)) ⟨ho, ho2, ⟨.ref b, H, I, rfl, q⟩⟩
theorem op_addM (hK : X.K = c.K) : OpR X (binaryOp .Add) (rB c (ML.binD .add)) := by
  intro pins s σ H x y v u Q I rx ry h
  obtain ⟨ρ, S, w, d1, d2, rs, r1, r2, p⟩ := h
  cases d1 with
  | int i =>
    cases d2 with
    | int j =>
      simp only [RD] at r1 r2
      exact L2.op_add pins s σ H x y v u Q I rx ry ⟨i, j, r1, r2, p.ok rs _ (by simp [RD])⟩
    | _ => exact p.elim
  | str a =>
    cases d2 with
    | str b =>
      simp only [RD] at r1 r2
      replace p : Pst c w ρ H (if (a ++ b).length ≤ ML.lim then .ok (ML.D.str (a ++ b)) S else .bad) _ := p
      by_cases hz : (a ++ b).length ≤ ML.lim
      · rw [if_pos hz] at p
        refine L2.op_add_str pins s σ H x y v u Q I rx ry ⟨sg a, sg b, r1.1, r2.1, ?_, ?_⟩
        · rw [sg_len, sg_len]; rw [List.length_append] at hz; exact lim_line hz
        · rw [← sg_app]; exact p.ok rs _ (by simp only [RD]; exact ⟨trivial, r1.2.app r2.2 hz⟩)
      · rw [if_neg hz] at p; exact p.elim
    | _ => exact p.elim
  | tup a =>
    cases d2 with
    | tup b =>
      simp only [RD] at r1 r2
      obtain ⟨z1, q1, vs, e1, t1, g1⟩ := r1
      obtain ⟨z2, q2, ws, e2, t2, g2⟩ := r2
      rw [← hK] at t1 t2
      replace p : Pst c w ρ H (if (a ++ b).length ≤ ML.lim then .ok (ML.D.tup (a ++ b)) S else .bad) _ := p
      by_cases hz : (a ++ b).length ≤ ML.lim
      · rw [if_pos hz] at p
        by_cases h0 : vs = []
        · subst h0
          have ha : a = [] := by have := g1.len; simpa using this
          subst ha
          refine op_catT0 pins s σ H x y v u Q I rx ry ⟨q1, q2, ws, e1, e2, t1, t2, p.ok rs _ ?_⟩
          simp only [List.nil_append, RD]
          exact ⟨z2, q2, ws, rfl, by rw [← hK]; exact t2, g2⟩
        · have hl : vs.length + ws.length ≤ sizeLine := by rw [← g1.len, ← g2.len, ← List.length_append]; exact lim_line hz
          refine L2.op_catT pins s σ H x y v u Q I rx ry ⟨q1, q2, vs, ws, e1, e2, t1, t2, h0, hl, fun hw => ?_, fun hw => p.tup rs (g1.app g2) (lim_line hz)⟩
          subst hw
          have hb : b = [] := by have := g2.len; simpa using this
          subst hb
          refine p.ok rs _ ?_
          simp only [List.append_nil, RD]
          exact ⟨z1, q1, vs, rfl, by rw [← hK]; exact t1, g1⟩
      · rw [if_neg hz] at p; exact p.elim
    | _ => exact p.elim
  | loc l =>
    cases d2 with
    | loc m =>
      unfold ML.binD at p
      dsimp only at p
      cases e1 : S[l]? with
      | none => rw [e1] at p; exact p.elim
      | some o1 =>
        cases o1 with
        | lst xs =>
          cases e2 : S[m]? with
          | none => rw [e1, e2] at p; exact p.elim
          | some o2 =>
            cases o2 with
            | lst ys =>
              rw [e1, e2] at p
              obtain ⟨a1, vs, h1, _, k1, g1, _⟩ := rs.lst e1 r1
              obtain ⟨a2, ws, h2, _, k2, g2, _⟩ := rs.lst e2 r2
              obtain ⟨hz, q⟩ := p.lst rs (g1.app g2)
              refine L2.op_cat pins s σ H x y v u Q I rx ry ⟨a1, a2, vs, ws, h1, h2, k1, k2, ?_, q⟩
              rw [← g1.len, ← g2.len, ← List.length_append]; exact lim_line hz
            | _ => rw [e1, e2] at p; exact p.elim
        | _ => rw [e1] at p; exact p.elim
    | _ => exact p.elim
  | _ => cases d2 <;> exact p.elim
theorem op_subM : OpR X (binaryOp .Sub) (rB c (ML.binD .sub)) := by
  intro pins s σ H x y v u Q I rx ry h
  obtain ⟨ρ, S, w, d1, d2, rs, r1, r2, p⟩ := h
  cases d1 with
  | int i =>
    cases d2 with
    | int j =>
      simp only [RD] at r1 r2
      exact L2.op_sub pins s σ H x y v u Q I rx ry ⟨i, j, r1, r2, p.ok rs _ (by simp [RD])⟩
    | _ => exact p.elim
  | _ => cases d2 <;> exact p.elim
theorem small_of {i : Int} (h : ML.small i = true) : -(2 ^ 64) < i ∧ i < 2 ^ 64 := by
  unfold ML.small ML.big at h
  simp only [Bool.and_eq_true, decide_eq_true_eq] at h
  omega
theorem op_fdivM : OpR X (binaryOp .FloorDiv) (rB c (ML.binD .fdiv)) := by
  intro pins s σ H x y v u Q I rx ry h
  obtain ⟨ρ, S, w, d1, d2, rs, r1, r2, p⟩ := h
  cases d1 with
  | int i =>
    cases d2 with
    | int j =>
      simp only [RD] at r1 r2
      unfold ML.binD at p
      dsimp only at p
      by_cases hj : 0 < j ∧ j < ML.big
      · rw [if_pos hj] at p
        refine L2.op_fdivW pins s σ H x y v u Q I rx ry ⟨i, j, r1, r2, ⟨hj.1, ?_⟩, p.ok rs _ (by simp [RD])⟩
        have h1 : j.natAbs < 2 ^ 64 := by
          have h2 := hj.2
          have h3 := hj.1
          unfold ML.big at h2
          omega
        have := Nat.log2_lt (n := j.natAbs) (k := 64) (by have := hj.1; omega)
        have := this.mpr h1
        omega
      · rw [if_neg hj] at p; exact p.elim
    | _ => exact p.elim
  | _ => cases d2 <;> exact p.elim
theorem op_modM : OpR X (binaryOp .Mod) (rB c (ML.binD .mod)) := by
  intro pins s σ H x y v u Q I rx ry h
  obtain ⟨ρ, S, w, d1, d2, rs, r1, r2, p⟩ := h
  cases d1 with
  | int i =>
    cases d2 with
    | int j =>
      simp only [RD] at r1 r2
      unfold ML.binD at p
      dsimp only at p
      by_cases hj : 0 < j ∧ j < ML.big
      · rw [if_pos hj] at p
        exact L2.op_mod pins s σ H x y v u Q I rx ry ⟨i, j, r1, r2, hj.1, p.ok rs _ (by simp [RD])⟩
      · rw [if_neg hj] at p; exact p.elim
    | _ => exact p.elim
  | _ => cases d2 <;> exact p.elim
theorem op_powM : OpR X (binaryOp .Pow) (rB c (ML.binD .pow)) := by
  intro pins s σ H x y v u Q I rx ry h
  obtain ⟨ρ, S, w, d1, d2, rs, r1, r2, p⟩ := h
  cases d1 with
  | int i =>
    cases d2 with
    | int j =>
      simp only [RD] at r1 r2
      unfold ML.binD at p
      dsimp only at p
      by_cases hj : (ML.small i && decide (0 ≤ j) && decide (j ≤ 1000)) = true
      · rw [if_pos hj] at p
        simp only [Bool.and_eq_true, decide_eq_true_eq] at hj
        obtain ⟨⟨h1, h2⟩, h3⟩ := hj
        have := small_of h1
        exact L2.op_pow pins s σ H x y v u Q I rx ry ⟨i, j, r1, r2, ⟨h2, by omega, by omega⟩, p.ok rs _ (by simp [RD])⟩
      · rw [if_neg hj] at p; exact p.elim
    | _ => exact p.elim
  | _ => cases d2 <;> exact p.elim
theorem toArray_reps (its : List Nat) : ∀ m : Nat, ∀ acc : List Nat, (List.replicate m its.toArray).foldl (· ++ ·) acc.toArray = (acc ++ (List.replicate m its).flatten).toArray
  | 0, acc => by simp
  | m + 1, acc => by
    rw [List.replicate_succ, List.foldl_cons]
    rw [show acc.toArray ++ its.toArray = (acc ++ its).toArray by simp, toArray_reps its m (acc ++ its)]
    simp [List.replicate_succ]
theorem txt_mul (s : ML.Sg) (j : Int) : Txt.mul (sg s) j = sg (List.replicate j.toNat s).flatten := by
  unfold Txt.mul
  by_cases h1 : j < 1
  · rw [if_pos h1]
    have : j.toNat = 0 := by omega
    rw [this]
    rfl
  · rw [if_neg h1]
    by_cases h2 : (j == 1 || (sg s).length == 0) = true
    · rw [if_pos h2]
      simp only [Bool.or_eq_true, beq_iff_eq] at h2
      rcases h2 with h2 | h2
      · subst h2
        simp
      · rw [sg_len] at h2
        have : s = [] := List.eq_nil_of_length_eq_zero h2
        subst this
        have e : (List.replicate j.toNat ([] : List Nat)).flatten = [] := by simp
        rw [e]
    · rw [if_neg h2]
      have := toArray_reps s j.toNat []
      simp only [List.nil_append] at this
      show (⟨_⟩ : Str) = ⟨_⟩
      have e : (sg s).cps = s.toArray := rfl
      rw [e]
      exact congrArg Str.mk this
theorem op_mul_str : OpR X (binaryOp .Mult) (fun x y H Q => ∃ s j, x = .str (sg s) ∧ y = .int j ∧ j ≤ 1000 ∧ -(2 ^ 63) ≤ j ∧ s.length ≤ ML.lim + 10 ∧ (List.replicate j.toNat s).flatten.length ≤ ML.lim ∧ Q (.str (sg (List.replicate j.toNat s).flatten)) H) := by
  intro pins s σ H x y v u Q I rx ry h
  obtain ⟨a, j, rfl, rfl, h1, h2, h3, h4, q⟩ := h
  obtain ⟨t, rfl⟩ := rx
  obtain ⟨t', rfl⟩ := ry
  have hl : (List.replicate j.toNat a).flatten.length = a.length * j.toNat := by
    rw [List.length_flatten]
    simp [Nat.mul_comm]
  refine SB.mul ⟨?_, fun h5 _ => ?_, fun h5 _ => ?_⟩ fun t' k => ⟨.str (Txt.mul (sg a) j), H, I.tok k, ⟨t', rfl⟩, by rw [txt_mul]; exact q⟩
  · rw [decide_eq_false (by omega), decide_eq_false (by omega)]; rfl
  · rw [sg_len]
    have h7 : (a.length : Int) ≤ 1000010 := by have : a.length ≤ 1000010 := h3; omega
    have h6 : (a.length : Int) ≤ (2 ^ 63 - 1) / j := by
      rw [Int.le_ediv_iff_mul_le (by omega)]
      have : (a.length : Int) * j ≤ 1000010 * 1000 := Int.mul_le_mul h7 h1 (by omega) (by decide)
      omega
    omega
  · unfold Builtin.Str.tooLong
    rw [sg_len, ← hl]
    have : (List.replicate j.toNat a).flatten.length ≤ 1000000 := h4
    have h8 : sizeLine = 16777216 := sizeLine_eq
    simp only [decide_eq_false_iff_not, gt_iff_lt, Nat.not_lt]
    omega
end
end MS
end
section
set_option linter.all false
set_option maxRecDepth 100000
set_option maxHeartbeats 1000000
/-! MS4: comparisons, truths. -/
namespace MS
open PySem
open L2 (V Hp HO SqL SqT Rd upd upd_same upd_ne RelV Vals TE TA TT TS VK XK WX Cx Inv PE PT PA PS PSs OpR)
mutual
def toPy : ML.D → PyData
  | .non => .none
  | .bl b => .bool b
  | .int i => .int i
  | .str s => .str (sg s)
  | .tup ds => .tuple (toPys ds)
  | .loc _ => .none
  | .rol _ => .none
def toPys : List ML.D → List PyData
  | [] => []
  | d :: ds => toPy d :: toPys ds
end
mutual
theorem toPy_depth : ∀ d : ML.D, (toPy d).depth ≤ d.depth
  | .non => by simp [toPy, PyData.depth]
  | .bl _ => by simp [toPy, PyData.depth]
  | .int _ => by simp [toPy, PyData.depth]
  | .str _ => by simp [toPy, PyData.depth]
  | .tup ds => by
    have := toPys_depth ds
    simp only [toPy, PyData.depth, ML.D.depth]
    omega
  | .loc _ => by simp [toPy, PyData.depth]
  | .rol _ => by simp [toPy, PyData.depth]
theorem toPys_depth : ∀ d : List ML.D, PyData.depthAll (toPys d) ≤ ML.D.depths d
  | [] => by simp [toPys, PyData.depthAll]
  | d :: ds => by
    have h1 := toPy_depth d
    have h2 := toPys_depth ds
    simp only [toPys, PyData.depthAll, ML.D.depths]
    omega
end
theorem sg_inj {x y : ML.Sg} : (sg x == sg y) = (x == y) := by
  rw [Bool.eq_iff_iff]
  simp [sg]
mutual
theorem toPy_eqv : ∀ (a b : ML.D), a.und 0 = true → a.noR = true → b.und 0 = true → b.noR = true → PyData.eqv (toPy a) (toPy b) = ML.D.eqp a b
  | .non, b, _, _, h1, h2 => by cases b <;> first | (exfalso; simp [ML.D.und] at h1; done) | (exfalso; simp [ML.D.noR] at h2; done) | simp [toPy, PyData.eqv, ML.D.eqp]
  | .bl _, b, _, _, h1, h2 => by cases b <;> first | (exfalso; simp [ML.D.und] at h1; done) | (exfalso; simp [ML.D.noR] at h2; done) | simp [toPy, PyData.eqv, ML.D.eqp]
  | .int _, b, _, _, h1, h2 => by cases b <;> first | (exfalso; simp [ML.D.und] at h1; done) | (exfalso; simp [ML.D.noR] at h2; done) | simp [toPy, PyData.eqv, ML.D.eqp]
  | .str _, b, _, _, h1, h2 => by cases b <;> first | (exfalso; simp [ML.D.und] at h1; done) | (exfalso; simp [ML.D.noR] at h2; done) | simp [toPy, PyData.eqv, ML.D.eqp, sg_inj]
  | .loc _, b, h1, _, _, _ => by simp [ML.D.und] at h1
  | .rol _, b, _, h1, _, _ => by simp [ML.D.noR] at h1
  | .tup xs, b, h1, h2, h3, h4 => by
    cases b with
    | tup ys =>
      simp only [ML.D.und, ML.D.noR] at h1 h2 h3 h4
      simp only [toPy, PyData.eqv, ML.D.eqp]
      exact toPys_eqv xs ys h1 h2 h3 h4
    | loc _ => simp [ML.D.und] at h3
    | rol _ => simp [ML.D.noR] at h4
    | _ => simp [toPy, PyData.eqv, ML.D.eqp]
theorem toPys_eqv : ∀ (a b : List ML.D), ML.D.unds 0 a = true → ML.D.noRs a = true → ML.D.unds 0 b = true → ML.D.noRs b = true → PyData.eqvAll (toPys a) (toPys b) = ML.D.eqps a b
  | [], [], _, _, _, _ => by simp [toPys, PyData.eqvAll, ML.D.eqps]
  | [], y :: ys, _, _, _, _ => by simp [toPys, PyData.eqvAll, ML.D.eqps]
  | x :: xs, [], _, _, _, _ => by simp [toPys, PyData.eqvAll, ML.D.eqps]
  | x :: xs, y :: ys, h1, h2, h3, h4 => by
    simp only [ML.D.unds, ML.D.noRs, Bool.and_eq_true] at h1 h2 h3 h4
    simp only [toPys, PyData.eqvAll, ML.D.eqps, toPy_eqv x y h1.1 h2.1 h3.1 h4.1, toPys_eqv xs ys h1.2 h2.2 h3.2 h4.2]
end
theorem sgOk.strOk {s : ML.Sg} (h : sgOk s) : PyData.strOk (sg s) = true := by
  unfold PyData.strOk sg
  simp only [List.all_toArray, List.all_eq_true, decide_eq_true_eq]
  exact h.1
section
variable {c : Cn} {ρ : List Addr} {H : Hp}
mutual
theorem RD.dp : ∀ (d : ML.D) (v : V), RD c ρ H d v → d.und 0 = true → d.noR = true → L2.Dp c.K H v (toPy d) ∧ (toPy d).canLay0 = true
  | .non, _, r, _, _ => by simp only [RD] at r; subst r; exact ⟨.non, by simp [toPy, PyData.canLay0]⟩
  | .bl _, _, r, _, _ => by simp only [RD] at r; subst r; exact ⟨.bl _, by simp [toPy, PyData.canLay0]⟩
  | .int _, _, r, _, _ => by simp only [RD] at r; subst r; exact ⟨.int _, by simp [toPy, PyData.canLay0]⟩
  | .str _, _, r, _, _ => by simp only [RD] at r; rw [r.1]; exact ⟨.str _, by simp only [toPy, PyData.canLay0]; exact r.2.strOk⟩
  | .tup ds, v, r, u, n => by
    simp only [RD] at r
    obtain ⟨_, p, vs, e, q, rs⟩ := r
    subst e
    simp only [ML.D.und, ML.D.noR] at u n
    obtain ⟨h1, h2⟩ := RDs.dp ds vs rs u n
    exact ⟨.tup q h1, by simp only [toPy, PyData.canLay0]; exact h2⟩
  | .loc _, _, _, u, _ => by simp [ML.D.und] at u
  | .rol _, _, _, _, n => by simp [ML.D.noR] at n
theorem RDs.dp : ∀ (d : List ML.D) (v : List V), RDs c ρ H d v → ML.D.unds 0 d = true → ML.D.noRs d = true → L2.DpAll c.K H v (toPys d) ∧ PyData.canLayAll0 (toPys d) = true
  | [], _, r, _, _ => by simp only [RDs] at r; subst r; exact ⟨.nil, by simp [toPys, PyData.canLayAll0]⟩
  | d :: ds, v, r, u, n => by
    simp only [RDs] at r
    obtain ⟨w, q, e, r1, r2⟩ := r
    subst e
    simp only [ML.D.unds, ML.D.noRs, Bool.and_eq_true] at u n
    obtain ⟨a1, a2⟩ := RD.dp d w r1 u.1 n.1
    obtain ⟨b1, b2⟩ := RDs.dp ds q r2 u.2 n.2
    exact ⟨.cons a1 b1, by simp [toPys, PyData.canLayAll0, a2, b2]⟩
end
theorem RD.shaped {d : ML.D} {v : V} (r : RD c ρ H d v) (h : d.cmpOk = true) : L2.Dp c.K H v (toPy d) ∧ SeqAt.shaped (toPy d) = true ∧ d.und 0 = true ∧ d.noR = true := by
  unfold ML.D.cmpOk at h
  simp only [Bool.and_eq_true, decide_eq_true_eq] at h
  obtain ⟨⟨h1, h2⟩, h3⟩ := h
  obtain ⟨a, b⟩ := r.dp _ _ h1 h2
  refine ⟨a, ?_, h1, h2⟩
  unfold SeqAt.shaped
  have := toPy_depth d
  simp only [Bool.and_eq_true, decide_eq_true_eq]
  exact ⟨b, by omega⟩
end
section
variable {X : Cx} {c : Cn} {W : WX}
/-- two-place operations that tell a truth -/
def rC (c : Cn) (f : ML.D → ML.D → ML.St → ML.Out Bool) : L2.R2 := fun x y H Q => ∃ ρ S w d1 d2, RS c ρ H S ∧ RD c ρ H d1 x ∧ RD c ρ H d2 y ∧ Pst c w ρ H (f d1 d2 S) fun r S' ρ' H' => Q (.bl r) H'
theorem op_eqM (hK : X.K = c.K) (hu : X.A.units + 64 < cLine) : OpR X (compareOp .Eq) (rC c (ML.cmpD .eq)) := by
  intro pins s σ H x y v u Q I rx ry h
  obtain ⟨ρ, S, w, d1, d2, rs, r1, r2, p⟩ := h
  unfold ML.cmpD at p
  dsimp only at p
  by_cases hz : (d1.cmpOk && d2.cmpOk) = true
  · rw [if_pos hz] at p
    simp only [Bool.and_eq_true] at hz
    obtain ⟨a1, a2, a3, a4⟩ := r1.shaped hz.1
    obtain ⟨b1, b2, b3, b4⟩ := r2.shaped hz.2
    refine L2.op_eqD hu pins s σ H x y v u Q I rx ry ⟨toPy d1, toPy d2, by rw [hK]; exact a1, by rw [hK]; exact b1, a2, b2, ?_⟩
    rw [toPy_eqv d1 d2 a3 a4 b3 b4]
    exact p.ok rs
  · rw [if_neg hz] at p; exact p.elim
theorem op_neM (hK : X.K = c.K) (hu : X.A.units + 64 < cLine) : OpR X (compareOp .NotEq) (rC c (ML.cmpD .ne)) := by
  intro pins s σ H x y v u Q I rx ry h
  obtain ⟨ρ, S, w, d1, d2, rs, r1, r2, p⟩ := h
  unfold ML.cmpD at p
  dsimp only at p
  by_cases hz : (d1.cmpOk && d2.cmpOk) = true
  · rw [if_pos hz] at p
    simp only [Bool.and_eq_true] at hz
    obtain ⟨a1, a2, a3, a4⟩ := r1.shaped hz.1
    obtain ⟨b1, b2, b3, b4⟩ := r2.shaped hz.2
    refine L2.op_neD hu pins s σ H x y v u Q I rx ry ⟨toPy d1, toPy d2, by rw [hK]; exact a1, by rw [hK]; exact b1, a2, b2, ?_⟩
    rw [toPy_eqv d1 d2 a3 a4 b3 b4]
    exact p.ok rs
  · rw [if_neg hz] at p; exact p.elim
theorem op_intM {op : CmpOp} {cop : ML.Cop} {f : Int → Int → Bool} (ho : OpR X (compareOp op) (L2.rI0 fun i j => .bl (f i j)))
    (h1 : ∀ i j S, ML.cmpD cop (.int i) (.int j) S = .ok (f i j) S) (h2 : ∀ a b S, (∀ i j, ¬ (a = .int i ∧ b = .int j)) → ML.cmpD cop a b S = .bad) : OpR X (compareOp op) (rC c (ML.cmpD cop)) := by
  intro pins s σ H x y v u Q I rx ry h
  obtain ⟨ρ, S, w, d1, d2, rs, r1, r2, p⟩ := h
  by_cases hz : ∃ i j, d1 = .int i ∧ d2 = .int j
  · obtain ⟨i, j, rfl, rfl⟩ := hz
    simp only [RD] at r1 r2
    rw [h1] at p
    exact ho pins s σ H x y v u Q I rx ry ⟨i, j, r1, r2, p.ok rs⟩
  · rw [h2 d1 d2 S (fun i j z => hz ⟨i, j, z⟩)] at p
    exact p.elim
theorem op_ltM : OpR X (compareOp .Lt) (rC c (ML.cmpD .lt)) := op_intM L2.op_lt (fun _ _ _ => rfl) fun a b S h => by
  cases a <;> first | rfl | (cases b <;> first | rfl | exact absurd ⟨rfl, rfl⟩ (h _ _))
theorem op_leM : OpR X (compareOp .LtE) (rC c (ML.cmpD .le)) := op_intM L2.op_le (fun _ _ _ => rfl) fun a b S h => by
  cases a <;> first | rfl | (cases b <;> first | rfl | exact absurd ⟨rfl, rfl⟩ (h _ _))
theorem op_gtM : OpR X (compareOp .Gt) (rC c (ML.cmpD .gt)) := op_intM L2.op_gt (fun _ _ _ => rfl) fun a b S h => by
  cases a <;> first | rfl | (cases b <;> first | rfl | exact absurd ⟨rfl, rfl⟩ (h _ _))
theorem op_geM : OpR X (compareOp .GtE) (rC c (ML.cmpD .ge)) := op_intM L2.op_ge (fun _ _ _ => rfl) fun a b S h => by
  cases a <;> first | rfl | (cases b <;> first | rfl | exact absurd ⟨rfl, rfl⟩ (h _ _))
end
end MS
end
section
set_option linter.all false
set_option maxRecDepth 100000
set_option maxHeartbeats 1000000
/-! MS5: in, not in; dicts by values; items. -/
namespace MS
open PySem
open L2 (V Hp HO SqL SqT Rd upd upd_same upd_ne RelV Vals TE TA TT TS VK XK WX Cx Inv PE PT PA PS PSs OpR)
theorem kk_inj {a b : ML.D} {k : L2.Key} (h1 : kk a = some k) (h2 : kk b = some k) : a = b := by
  cases a <;> simp [kk] at h1 <;> cases b <;> simp [kk] at h2
  · rw [← h1] at h2
    simp at h2
    rw [h2]
  · rw [← h1] at h2
    simp at h2
  · rw [← h1] at h2
    simp at h2
  · rw [← h1] at h2
    simp only [Sum.inr.injEq, sg] at h2
    simp at h2
    rw [h2]
theorem kk_of {k : ML.D} (h : ML.keyOk k = true) : ∃ K, kk k = some K := by
  cases k <;> simp [ML.keyOk] at h <;> exact ⟨_, rfl⟩
theorem kk_V {c : Cn} {ρ : List Addr} {H : Hp} {d : ML.D} {v : V} {K : L2.Key} (h : kk d = some K) (r : RD c ρ H d v) : v = L2.kV K ∧ sgK d := by
  cases d <;> simp [kk] at h
  · simp only [RD] at r
    subst h
    exact ⟨r, trivial⟩
  · simp only [RD] at r
    subst h
    exact ⟨r.1, r.2⟩
section
variable {c : Cn} {ρ : List Addr} {H : Hp}
theorem RKs.look : ∀ {kvs : List (ML.D × ML.D)} {r : List (L2.Key × V)} {k : ML.D} {K : L2.Key}, RKs c ρ H kvs r → kk k = some K →
    (ML.lookD kvs k = none ∧ L2.valV r K = none) ∨ ∃ d v, ML.lookD kvs k = some d ∧ L2.valV r K = some v ∧ RD c ρ H d v
  | [], _, k, K, h, _ => by
    simp only [RKs] at h
    subst h
    exact .inl ⟨rfl, rfl⟩
  | p :: ps, r, k, K, h, hk => by
    simp only [RKs] at h
    obtain ⟨K', v, r', e, e1, _, e2, e3⟩ := h
    subst e
    by_cases z : p.1 = k
    · have z' : K' = K := by
        rw [z, hk] at e1
        exact (Option.some.inj e1).symm
      exact .inr ⟨p.2, v, by simp [ML.lookD, List.find?_cons, z], L2.valV_pos z', e2⟩
    · have z' : ¬ K' = K := fun q => z (kk_inj (e1.trans (congrArg some q)) hk)
      have h1 : ML.lookD (p :: ps) k = ML.lookD ps k := by simp [ML.lookD, List.find?_cons, z]
      rw [h1, L2.valV_neg (p := (K', v)) z']
      exact RKs.look e3 hk
theorem RKs.len : ∀ {kvs : List (ML.D × ML.D)} {r : List (L2.Key × V)}, RKs c ρ H kvs r → kvs.length = r.length
  | [], _, h => by simp only [RKs] at h; subst h; rfl
  | p :: ps, r, h => by
    simp only [RKs] at h
    obtain ⟨K', v, r', e, _, _, _, e3⟩ := h
    subst e
    simp [e3.len]
theorem RKs.app : ∀ {kvs ks2 : List (ML.D × ML.D)} {r r2 : List (L2.Key × V)}, RKs c ρ H kvs r → RKs c ρ H ks2 r2 → RKs c ρ H (kvs ++ ks2) (r ++ r2)
  | [], _, _, _, h, q => by simp only [RKs] at h; subst h; exact q
  | p :: ps, ks2, r, r2, h, q => by
    simp only [RKs] at h
    obtain ⟨K', v, r', e, e1, e0, e2, e3⟩ := h
    subst e
    exact ⟨K', v, r' ++ r2, rfl, e1, e0, e2, e3.app q⟩
theorem RKs.any {kvs : List (ML.D × ML.D)} {r : List (L2.Key × V)} {k : ML.D} {K : L2.Key} (h : RKs c ρ H kvs r) (hk : kk k = some K) : (r.any fun kv => decide (kv.1 = K)) = (ML.lookD kvs k).isSome := by
  rw [L2.valV_any]
  rcases h.look hk with ⟨a, b⟩ | ⟨d, v, a, b, _⟩ <;> rw [a, b] <;> rfl
theorem RKs.mem : ∀ {kvs : List (ML.D × ML.D)} {k : ML.D}, (k ∈ kvs.map (·.1)) ↔ (ML.lookD kvs k).isSome = true
  | [], k => by simp [ML.lookD]
  | p :: ps, k => by
    by_cases z : p.1 = k
    · simp [ML.lookD, List.find?_cons, z]
    · have h1 : ML.lookD (p :: ps) k = ML.lookD ps k := by simp [ML.lookD, List.find?_cons, z]
      rw [h1, ← RKs.mem (kvs := ps)]
      simp only [List.map_cons, List.mem_cons]
      exact ⟨fun h => h.resolve_left fun q => z q.symm, .inr⟩
/-- a pair in its place -/
theorem RKs.upd1 : ∀ {kvs : List (ML.D × ML.D)} {r : List (L2.Key × V)} {k d : ML.D} {K : L2.Key} {v : V}, RKs c ρ H kvs r → (kvs.map (·.1)).Nodup → kk k = some K → RD c ρ H d v → k ∈ kvs.map (·.1) →
    RKs c ρ H (ML.putD kvs k d) (r.map fun kv => if kv.1 = K then (kv.1, v) else kv) ∧ (ML.putD kvs k d).map (·.1) = kvs.map (·.1)
  | [], _, _, _, _, _, _, _, _, _, hm => by simp at hm
  | p :: ps, r, k, d, K, v, h, nd, hk, rd, hm => by
    simp only [RKs] at h
    obtain ⟨K', w, r', e, e1, e0, e2, e3⟩ := h
    subst e
    simp only [List.map_cons, List.nodup_cons] at nd
    by_cases z : p.1 = k
    · have z' : K' = K := by
        rw [z, hk] at e1
        exact (Option.some.inj e1).symm
      have hn : (r'.any fun kv => decide (kv.1 = K)) = false := by
        rw [e3.any hk]
        cases q : (ML.lookD ps k).isSome with
        | false => rfl
        | true => exact absurd (RKs.mem.mpr q) (by rw [← z]; exact nd.1)
      have hr : (r'.map fun kv => if kv.1 = K then (kv.1, v) else kv) = r' := by
        have h2 := List.any_eq_false.mp hn
        rw [List.map_congr_left (g := id)]
        · simp
        · intro a ha
          have := h2 a ha
          simp only [decide_eq_true_eq] at this
          rw [if_neg this]; rfl
      have e4 : ML.putD (p :: ps) k d = (k, d) :: ps := by simp [ML.putD, z]
      rw [e4]
      refine ⟨?_, by simp [z]⟩
      simp only [List.map_cons, if_pos z', hr]
      exact ⟨K', v, r', rfl, by rw [z']; exact hk, by rw [← z]; exact e0, rd, e3⟩
    · have z' : ¬ K' = K := fun q => z (kk_inj (e1.trans (congrArg some q)) hk)
      have hm' : k ∈ ps.map (·.1) := by
        rcases List.mem_cons.mp (show k ∈ p.1 :: ps.map (·.1) from hm) with q | q
        · exact absurd q.symm z
        · exact q
      obtain ⟨q1, q2⟩ := RKs.upd1 e3 nd.2 hk rd hm'
      have e4 : ML.putD (p :: ps) k d = p :: ML.putD ps k d := by simp [ML.putD, z]
      rw [e4]
      refine ⟨?_, by simp [q2]⟩
      simp only [List.map_cons, if_neg z']
      exact ⟨K', w, _, rfl, e1, e0, e2, q1⟩
theorem putD_new : ∀ {kvs : List (ML.D × ML.D)} {k d : ML.D}, k ∉ kvs.map (·.1) → ML.putD kvs k d = kvs ++ [(k, d)]
  | [], _, _, _ => rfl
  | p :: ps, k, d, h => by
    simp only [List.map_cons, List.mem_cons, not_or] at h
    have z : ¬ p.1 = k := fun q => h.1 q.symm
    simp [ML.putD, z, putD_new h.2]
theorem RKs.put {kvs : List (ML.D × ML.D)} {r : List (L2.Key × V)} {k d : ML.D} {K : L2.Key} {v : V} (h : RKs c ρ H kvs r) (nd : (kvs.map (·.1)).Nodup) (hk : kk k = some K) (hs : sgK k) (rd : RD c ρ H d v) :
    RKs c ρ H (ML.putD kvs k d) (L2.putK r K v) ∧ ((ML.putD kvs k d).map (·.1)).Nodup := by
  unfold L2.putK
  rw [h.any hk]
  cases q : (ML.lookD kvs k).isSome with
  | true =>
    rw [if_pos rfl]
    obtain ⟨a, b⟩ := h.upd1 nd hk rd (RKs.mem.mpr q)
    exact ⟨a, by rw [b]; exact nd⟩
  | false =>
    have hm : k ∉ kvs.map (·.1) := fun z => by rw [RKs.mem.mp z] at q; cases q
    rw [if_neg (by decide), putD_new hm]
    refine ⟨h.app ⟨K, v, [], rfl, hk, hs, rd, rfl⟩, ?_⟩
    rw [List.map_append, List.nodup_append]
    refine ⟨nd, by simp, fun a ha b hb z => hm ?_⟩
    have e : b = k := by simpa using hb
    rw [← e, ← z]; exact ha
end

/-! ### flat values -/
section
variable {c : Cn} {ρ : List Addr} {H : Hp}
theorem RD.flat {d : ML.D} {v : V} (r : RD c ρ H d v) (h : d.flat = true) : L2.flatV v = true := by
  cases d with
  | tup _ => simp [ML.D.flat] at h
  | loc _ => simp [ML.D.flat] at h
  | rol _ => simp [ML.D.flat] at h
  | str _ => simp only [RD] at r; rw [r.1]; rfl
  | _ => simp only [RD] at r; subst r; rfl
theorem RD.eqv {a b : ML.D} {v w : V} (r : RD c ρ H a v) (q : RD c ρ H b w) (h : a.flat = true) (h' : b.flat = true) : L2.eqV v w = ML.D.eqp a b := by
  cases a <;> simp [ML.D.flat] at h <;> cases b <;> simp [ML.D.flat] at h' <;> simp only [RD] at r q <;>
    first
      | (obtain ⟨r, _⟩ := r; obtain ⟨q, _⟩ := q; subst r q; simp [L2.eqV, ML.D.eqp, sg_inj])
      | (obtain ⟨q, _⟩ := q; subst r q; simp [L2.eqV, ML.D.eqp])
      | (obtain ⟨r, _⟩ := r; subst r q; simp [L2.eqV, ML.D.eqp])
      | (subst r q; simp [L2.eqV, ML.D.eqp])
theorem RDs.flats : ∀ {ds : List ML.D} {vs : List V}, RDs c ρ H ds vs → ds.all ML.D.flat = true → vs.all L2.flatV = true
  | [], _, r, _ => by simp only [RDs] at r; subst r; rfl
  | d :: ds, vs, r, h => by
    simp only [RDs] at r
    obtain ⟨w, q, e, r1, r2⟩ := r
    subst e
    simp only [List.all_cons, Bool.and_eq_true] at h ⊢
    exact ⟨r1.flat h.1, r2.flats h.2⟩
theorem RDs.inV {a : ML.D} {v : V} (ra : RD c ρ H a v) (ha : a.flat = true) : ∀ {ds : List ML.D} {vs : List V}, RDs c ρ H ds vs → ds.all ML.D.flat = true → L2.inV v vs = ds.any fun x => ML.D.eqp x a
  | [], _, r, _ => by simp only [RDs] at r; subst r; rfl
  | d :: ds, vs, r, h => by
    simp only [RDs] at r
    obtain ⟨w, q, e, r1, r2⟩ := r
    subst e
    simp only [List.all_cons, Bool.and_eq_true] at h
    have ih := RDs.inV ra ha r2 h.2
    unfold L2.inV at ih ⊢
    simp only [List.any_cons]
    rw [ih, r1.eqv ra h.1 ha]
end
section
variable {X : Cx} {c : Cn} {W : WX}
theorem Pst.items {w : XW} {ρ : List Addr} {H : Hp} {S : ML.St} {a : ML.D} {xs : List ML.D} {k : Bool → ML.St → List Addr → Hp → Prop} (p : Pst c w ρ H (ML.inItems a xs S) k) : a.flat = true ∧ xs.all ML.D.flat = true ∧
    Pst c w ρ H (.ok (xs.any fun x => ML.D.eqp x a) S) k := by
  unfold ML.inItems at p
  by_cases h : (a.flat && xs.all ML.D.flat) = true
  · rw [if_pos h] at p
    simp only [Bool.and_eq_true] at h
    exact ⟨h.1, h.2, p⟩
  · rw [if_neg h] at p; exact p.elim
theorem mem_any (k : Nat) (b : List Nat) : decide (k ∈ b) = b.any fun x => x == k := by
  rw [Bool.eq_iff_iff]
  simp only [decide_eq_true_eq, List.any_eq_true, beq_iff_eq]
  exact ⟨fun h => ⟨k, h, rfl⟩, fun ⟨x, h, e⟩ => e ▸ h⟩
theorem sg_one (c : Nat) : sg [c] = ⟨#[c]⟩ := rfl
theorem op_inM (hK : X.K = c.K) (hu : X.A.units + 1 < cLine) : OpR X (compareOp .In) (rC c ML.inD) := by
  intro pins s σ H x y v u Q I rx ry h
  obtain ⟨ρ, S, w, d1, d2, rs, r1, r2, p⟩ := h
  cases d2 with
  | str b =>
    cases d1 with
    | str a =>
      match a, p with
      | [], p => exact p.elim
      | _ :: _ :: _, p => exact p.elim
      | [k], p =>
        simp only [RD] at r1 r2
        refine L2.op_in_sign pins s σ H x y v u Q I rx ry ⟨k, sg b, by rw [r1.1, sg_one], r2.1, ?_⟩
        have q := p.ok rs
        have e : decide (k ∈ (sg b).cps.toList) = b.any fun x => x == k := mem_any k b
        rw [e]; exact q
    | _ => exact p.elim
  | tup xs =>
    replace p : Pst c w ρ H (ML.inItems d1 xs S) _ := p
    obtain ⟨h1, h2, q⟩ := p.items
    simp only [RD] at r2
    obtain ⟨_, a, vs, e, t, g⟩ := r2
    refine L2.op_in_seq pins s σ H x y v u Q I rx ry ⟨a, vs, e, .inr (by rw [hK]; exact t), r1.flat h1, g.flats h2, ?_⟩
    rw [RDs.inV r1 h1 g h2]
    exact q.ok rs
  | loc l =>
    unfold ML.inD at p
    dsimp only at p
    cases e1 : S[l]? with
    | none => rw [e1] at p; exact p.elim
    | some o =>
      cases o with
      | lst xs =>
        rw [e1] at p
        replace p : Pst c w ρ H (ML.inItems d1 xs S) _ := p
        obtain ⟨h1, h2, q⟩ := p.items
        obtain ⟨a, vs, e, _, t, g, _⟩ := rs.lst e1 r2
        refine L2.op_in_seq pins s σ H x y v u Q I rx ry ⟨a, vs, e, .inl (.inl (.inl t)), r1.flat h1, g.flats h2, ?_⟩
        rw [RDs.inV r1 h1 g h2]
        exact q.ok rs
      | dct kvs =>
        rw [e1] at p
        dsimp only at p
        by_cases hk : ML.keyOk d1 = true
        · rw [if_pos hk] at p
          obtain ⟨a, vs, e, _, t, _, g⟩ := rs.dct e1 r2
          obtain ⟨K, hK'⟩ := kk_of hk
          obtain ⟨ev, _⟩ := kk_V hK' r1
          subst e ev
          obtain rfl : u = Value.ref a := ry
          refine L2.d_in hu I (L2.DGet.k t) rx fun s' I' => ⟨.bl _, H, I', rfl, ?_⟩
          have e2 : (L2.valV vs K).isSome = (ML.lookD kvs d1).isSome := by
            rcases g.look hK' with ⟨h1, h2⟩ | ⟨d, v, h1, h2, _⟩ <;> rw [h1, h2] <;> rfl
          rw [e2]; exact p.ok rs
        · rw [if_neg hk] at p; exact p.elim
      | _ => rw [e1] at p; exact p.elim
  | _ => exact p.elim
theorem op_notinM (hK : X.K = c.K) (hu : X.A.units + 1 < cLine) : OpR X (compareOp .NotIn) (rC c (ML.cmpD .notin)) := by
  intro pins s σ H x y v u Q I rx ry h
  obtain ⟨ρ, S, w, d1, d2, rs, r1, r2, p⟩ := h
  replace p : Pst c w ρ H ((ML.inD d1 d2 S).bnd fun r S => .ok (!r) S) _ := p
  cases d2 with
  | str b =>
    cases d1 with
    | str a =>
      match a, p with
      | [], p => exact p.elim
      | _ :: _ :: _, p => exact p.elim
      | [k], p =>
        simp only [RD] at r1 r2
        refine L2.op_notIn_sign pins s σ H x y v u Q I rx ry ⟨k, sg b, by rw [r1.1, sg_one], r2.1, ?_⟩
        have q := p.ok rs
        have e : decide (k ∈ (sg b).cps.toList) = b.any fun x => x == k := mem_any k b
        rw [e]; exact q
    | _ => exact p.elim
  | tup xs =>
    replace p : Pst c w ρ H ((ML.inItems d1 xs S).bnd fun r S => .ok (!r) S) _ := p
    obtain ⟨h1, h2, q⟩ := p.bnd.items
    simp only [RD] at r2
    obtain ⟨_, a, vs, e, t, g⟩ := r2
    refine L2.op_notIn_seq pins s σ H x y v u Q I rx ry ⟨a, vs, e, .inr (by rw [hK]; exact t), r1.flat h1, g.flats h2, ?_⟩
    rw [RDs.inV r1 h1 g h2]
    exact (q.ok rs).ok rs
  | loc l =>
    unfold ML.inD at p
    dsimp only at p
    cases e1 : S[l]? with
    | none => rw [e1] at p; exact p.elim
    | some o =>
      cases o with
      | lst xs =>
        rw [e1] at p
        replace p : Pst c w ρ H ((ML.inItems d1 xs S).bnd fun r S => .ok (!r) S) _ := p
        obtain ⟨h1, h2, q⟩ := p.bnd.items
        obtain ⟨a, vs, e, _, t, g, _⟩ := rs.lst e1 r2
        refine L2.op_notIn_seq pins s σ H x y v u Q I rx ry ⟨a, vs, e, .inl (.inl (.inl t)), r1.flat h1, g.flats h2, ?_⟩
        rw [RDs.inV r1 h1 g h2]
        exact (q.ok rs).ok rs
      | dct kvs =>
        rw [e1] at p
        dsimp only at p
        by_cases hk : ML.keyOk d1 = true
        · rw [if_pos hk] at p
          obtain ⟨a, vs, e, _, t, _, g⟩ := rs.dct e1 r2
          obtain ⟨K, hK'⟩ := kk_of hk
          obtain ⟨ev, _⟩ := kk_V hK' r1
          subst e ev
          obtain rfl : u = Value.ref a := ry
          refine L2.d_notIn hu I (L2.DGet.k t) rx fun s' I' => ⟨.bl _, H, I', rfl, ?_⟩
          have e2 : (L2.valV vs K).isSome = (ML.lookD kvs d1).isSome := by
            rcases g.look hK' with ⟨h1, h2⟩ | ⟨d, v, h1, h2, _⟩ <;> rw [h1, h2] <;> rfl
          rw [e2]; exact p.ok rs
        · rw [if_neg hk] at p; exact p.elim
      | _ => rw [e1] at p; exact p.elim
  | _ => exact p.elim
end
end MS
end
section
set_option linter.all false
set_option maxRecDepth 100000
set_option maxHeartbeats 1000000
/-! MS6: lists and tuples that are read at once. -/
namespace MS
open PySem
open L2 (V Hp HO SqL SqT Rd upd upd_same upd_ne RelV Vals TE TA TT TS VK XK WX Cx Inv PE PT PA PS PSs OpR)
theorem Pst.monoE {α : Type} {c : Cn} {w : XW} {ρ : List Addr} {H : Hp} {k k' : α → ML.St → List Addr → Hp → Prop} {x : ML.Out α} (h : Pst c w ρ H x k)
    (f : ∀ a S ρ' H', x = .ok a S → Fr ρ H ρ' H' → RS c ρ' H' S → k a S ρ' H' → k' a S ρ' H') : Pst c w ρ H x k' := by
  cases x with
  | ok a S => exact fun ρ' H' e r => f _ _ _ _ rfl e r (h ρ' H' e r)
  | exc n fs S => exact h
  | bad => exact h
/-- the items p stand at a -/
def Lk (c : Cn) (p : ML.Li) (ρ : List Addr) (H : Hp) (a : Addr) : Prop := match p.b with
  | false => p.g = [] ∧ p.xs.length ≤ sizeLine ∧ ∃ vs, SqT c.K H a vs ∧ RDs c ρ H p.xs vs
  | true => (p.g = [] ∧ p.r = false ∧ a ∉ ρ ∧ p.xs.length ≤ sizeLine ∧ ∃ vs, H a = some (.lst vs) ∧ RDs c ρ H p.xs vs) ∨ (p.g = [] ∧ p.r = true ∧ p.xs.length ≤ sizeLine ∧ ∃ vs, SqR c.K H a vs ∧ RDs c ρ H p.xs vs) ∨
    ∃ l, p.g = [(l, .lst p.xs)] ∧ p.r = false ∧ ρ[l]? = some a
section
variable {c : Cn} {ρ ρ' : List Addr} {H H' : Hp} {S : ML.St} {p : ML.Li} {a : Addr}
theorem Lk.mono (rs : RS c ρ H S) (f : Fr ρ H ρ' H') (h : Lk c p ρ H a) : Lk c p ρ' H' a := by
  unfold Lk at h ⊢
  cases hb : p.b with
  | false =>
    rw [hb] at h
    obtain ⟨g, z, vs, t, r⟩ := h
    exact ⟨g, z, vs, rs.sqT f t, r.mono rs f⟩
  | true =>
    rw [hb] at h
    rcases h with ⟨g, q, n, y, vs, t, r⟩ | ⟨g, q, y, vs, t, r⟩ | ⟨l, g, q, t⟩
    · refine .inl ⟨g, q, fun z => ?_, y, vs, f.keep _ _ n t, r.mono rs f⟩
      obtain ⟨t', e, m⟩ := f.ext
      rw [e] at z
      rcases List.mem_append.mp z with z | z
      · exact n z
      · rw [(m a z).1] at t; cases t
    · exact .inr (.inl ⟨g, q, y, vs, rs.sqR f t, r.mono rs f⟩)
    · refine .inr (.inr ⟨l, g, q, ?_⟩)
      obtain ⟨t', e, _⟩ := f.ext
      rw [e, List.getElem?_append_left (List.getElem?_eq_some_iff.mp t).1]
      exact t
/-- read at a state in which it stands -/
theorem Lk.at_ (h : Lk c p ρ H a) (rs : RS c ρ H S) (g : p.g.ok S = true) : ∃ vs, RDs c ρ H p.xs vs ∧ (p.b = true → SqL c.K H a vs) ∧ (p.b = false → SqT c.K H a vs) ∧ (p.b = true → p.r = false → H a = some (.lst vs)) ∧ p.xs.length ≤ sizeLine := by
  unfold Lk at h
  cases hb : p.b with
  | false =>
    rw [hb] at h
    obtain ⟨_, z, vs, t, r⟩ := h
    exact ⟨vs, r, (fun z => nomatch z), fun _ => t, (fun z => nomatch z), z⟩
  | true =>
    rw [hb] at h
    rcases h with ⟨_, _, n, y, vs, t, r⟩ | ⟨_, q, y, vs, t, r⟩ | ⟨l, e, _, t⟩
    · exact ⟨vs, r, fun _ => .inl (.inl t), (fun z => nomatch z), (fun _ _ => t), y⟩
    · exact ⟨vs, r, fun _ => t.l, (fun z => nomatch z), (fun _ z => by rw [q] at z; cases z), y⟩
    · rw [e] at g
      unfold ML.Gd.ok at g
      simp only [List.all_cons, List.all_nil, Bool.and_true, decide_eq_true_eq] at g
      obtain ⟨y, vs, e1, r⟩ := rs.obj l _ a g t
      exact ⟨vs, r, fun _ => .inl (.inl e1), (fun z => nomatch z), (fun _ _ => e1), y⟩
theorem Lk.new {xs : List ML.D} {vs : List V} (ha : H a = none) (rs : RS c ρ H S) (r : RDs c ρ H xs vs) (hz : xs.length ≤ sizeLine) : Lk c ⟨true, xs, [], false⟩ ρ (upd H a (.lst vs)) a :=
  .inl ⟨rfl, rfl, rs.fresh ha, hz, vs, upd_same, r.mono rs (Fr.new ha)⟩
end
section
variable (c : Cn) (W : WX)
/-- read at once -/
def tL (f : ML.Env → ML.St → ML.Out ML.Li) : TE := fun τ H Q => ∃ ρ S σ, RS c ρ H S ∧ RE c ρ H σ τ ∧ Pst c (Wsh c W τ) ρ H (f σ S) fun p S' ρ' H' => ∀ a, Lk c p ρ' H' a → Q (.ref a) H'
/-- a list just made, or a tuple -/
def tN (f : ML.Env → ML.St → ML.Out ML.Li) : TE := fun τ H Q => ∃ ρ S σ, RS c ρ H S ∧ RE c ρ H σ τ ∧ Pst c (Wsh c W τ) ρ H (f σ S) fun p S' ρ' H' =>
  (p.b = true → ∀ a vs, H' a = none → p.xs.length ≤ sizeLine → RDs c ρ' H' p.xs vs → Q (.ref a) (upd H' a (.lst vs))) ∧ (p.b = false → ∀ a, Lk c p ρ' H' a → Q (.ref a) H')
end
section
variable {X : Cx} {c : Cn} {W : WX} {e : Expr} {es : List Expr} {pos : Pos} {f : ML.Env → ML.St → ML.Out ML.Li} {fa fb : ML.Env → ML.St → ML.Out ML.D} {fl : ML.Env → ML.St → ML.Out (List ML.D)}
/-- what a new list is: read at once -/
def Nw (f : ML.Env → ML.St → ML.Out ML.Li) : Prop := ∀ σ S p S', f σ S = .ok p S' → p.b = true → p.g = [] ∧ p.r = false
theorem l_of_n (hf : Nw f) (h : PE X e (tN c W f)) : PE X e (tL c W f) := PE.mono h fun τ H Q h => by
  obtain ⟨ρ, S, σ, rs, re, p⟩ := h
  refine ⟨ρ, S, σ, rs, re, ?_⟩
  cases ef : f σ S with
  | bad => rw [ef] at p; exact p
  | exc n fs S' => rw [ef] at p; exact p
  | ok q S' =>
    rw [ef] at p
    intro ρ' H' fr rs'
    refine ⟨fun hb a vs ha hz r => ?_, fun _ a h => p ρ' H' fr rs' a h⟩
    obtain ⟨g, q'⟩ := hf σ S q S' ef hb
    refine p ρ' (upd H' a (.lst vs)) (fr.trans (Fr.new ha)) (rs'.new ha) a ?_
    unfold Lk
    rw [hb]
    exact .inl ⟨g, q', rs'.fresh ha, hz, vs, upd_same, r.mono rs' (Fr.new ha)⟩
theorem e_lst (h : PE X e (tN c W f)) : PE X e (tE c W fun σ S => (f σ S).bnd fun p S => if p.b then ML.mkLst p.xs S else .bad) := PE.mono h fun τ H Q h => by
  obtain ⟨ρ, S, σ, rs, re, p⟩ := h
  refine ⟨ρ, S, σ, rs, re, p.bnd.mono fun q S' ρ' H' fr rs' p1 => ?_⟩
  cases hb : q.b with
  | false => rw [hb] at p1; exact p1.elim
  | true =>
    rw [hb] at p1
    refine ⟨fun _ a vs ha _ r => ?_, fun z => nomatch z⟩
    exact (p1.lst rs' r).2 a ha
theorem n_disp (h : PA X es (tA c W fl)) (hl : ∀ σ S ds S', fl σ S = .ok ds S' → ds.length ≤ 1000) : PE X (.List es pos) (tN c W fun σ S => (fl σ S).bnd fun ds S => .ok ⟨true, ds, [], false⟩ S) := PE.mono (L2.pe_lst h) fun τ H Q h => by
  obtain ⟨ρ, S, σ, rs, re, p⟩ := h
  refine ⟨ρ, S, σ, rs, re, p.bnd.monoE fun ds S' ρ' H' ee fr rs' p1 vs r => ?_⟩
  have hz := hl _ _ _ _ ee
  refine ⟨by rw [← r.len]; exact Nat.le_trans hz (by decide), fun a ha => ?_⟩
  exact (p1.ok rs').1 rfl a vs ha (Nat.le_trans hz (by decide)) r
theorem e_tup {k : Nat} (h : PA X es (tA c W fl)) (hl : ∀ σ S ds S', fl σ S = .ok ds S' → ds.length ≤ 1000) : PE X (.Tuple es k pos) (tE c W fun σ S => (fl σ S).bnd fun ds S => .ok (.tup ds) S) := PE.mono (L2.pe_tup h) fun τ H Q h => by
  obtain ⟨ρ, S, σ, rs, re, p⟩ := h
  refine ⟨ρ, S, σ, rs, re, p.bnd.monoE fun ds S' ρ' H' ee fr rs' p1 vs r => ?_⟩
  have hz := hl _ _ _ _ ee
  exact ⟨by rw [← r.len]; exact Nat.le_trans hz (by decide), p1.tup rs' r (Nat.le_trans hz (by decide))⟩
/-- a list or tuple that stands already -/
theorem l_ofE (h : PE X e (tE c W fa)) : PE X e (tL c W fun σ S => (fa σ S).bnd fun x S => match x with
    | .tup xs => .ok ⟨false, xs, [], false⟩ S
    | .rol xs => .ok ⟨true, xs, [], true⟩ S
    | .loc l => match ML.lstAt S l with
      | some xs => .ok ⟨true, xs, [(l, .lst xs)], false⟩ S
      | none => .bad
    | _ => .bad) := PE.mono h fun τ H Q h => by
  obtain ⟨ρ, S, σ, rs, re, p⟩ := h
  refine ⟨ρ, S, σ, rs, re, p.bnd.mono fun d S' ρ' H' fr rs' p1 v r => ?_⟩
  cases d with
  | tup xs =>
    simp only [RD] at r
    obtain ⟨z, a, vs, e, t, g⟩ := r
    subst e
    exact p1.ok rs' a ⟨rfl, z, vs, t, g⟩
  | rol xs =>
    simp only [RD] at r
    obtain ⟨z, a, vs, e, t, g⟩ := r
    subst e
    exact p1.ok rs' a (.inr (.inl ⟨rfl, rfl, z, vs, t, g⟩))
  | loc l =>
    dsimp only at p1
    cases el : ML.lstAt S' l with
    | none => rw [el] at p1; exact p1.elim
    | some xs =>
      rw [el] at p1
      simp only [RD] at r
      obtain ⟨a, e, t⟩ := r
      subst e
      exact p1.ok rs' a (.inr (.inr ⟨l, rfl, rfl, t⟩))
  | _ => exact p1.elim
theorem lstAt_of {S : ML.St} {l : Nat} {xs : List ML.D} (h : ML.lstAt S l = some xs) : S[l]? = some (.lst xs) := by
  unfold ML.lstAt at h
  split at h
  · rename_i ys e
    rw [e]; cases h; rfl
  · cases h

/-! ### all, any, sum, len, tuple of one -/
theorem e_bl1 {g : ML.Li → ML.St → ML.Out ML.D} {x : Str} {p pos : Pos} {F : Value} {r : List V → Hp → VK → Prop} (hl : PE X e (tL c W f)) (hs : ∀ x p, e ≠ .Starred x p)
    (hc : ∀ (t : TA), PA X [e] t → PE X (.Call (.Name x p) [e] [] pos) (L2.tCB r t))
    (hg : ∀ ρ S H q a w Q, RS c ρ H S → Lk c q ρ H a → Pst c w ρ H (g q S) (fun d S' ρ' H' => ∀ v, RD c ρ' H' d v → Q v H') → q.g.ok S = true → r [.ref a] H Q)
    (hgd : ∀ σ S q S', f σ S = .ok q S' → q.g.ok S' = true) :
    PE X (.Call (.Name x p) [e] [] pos) (tE c W fun σ S => (f σ S).bnd g) := PE.mono (hc _ (L2.pa_cons hl L2.pa_nil (starEach_cons hs))) fun τ H Q h => by
  obtain ⟨ρ, S, σ, rs, re, p⟩ := h
  refine ⟨ρ, S, σ, rs, re, p.bnd.monoE fun q S' ρ' H' ee fr rs' p1 a lk => ?_⟩
  exact hg ρ' S' H' q a _ Q rs' lk p1 (hgd _ _ _ _ ee)
end
end MS
end
section
set_option linter.all false
set_option maxRecDepth 100000
set_option maxHeartbeats 1000000
/-! MS7: what is walked. -/
namespace MS
open PySem
open L2 (V Hp HO SqL SqT Rd upd upd_same upd_ne RelV Vals TE TA TT TS TI VK XK WX Cx Inv PE PT PA PS PSs PI OpR It Turn PIE)

/-! ### enumerate(tuple) -/
section
variable {prog : Program} {w : World} {A : Around} {E : Value → Shared → Prop} {s : Shared}
set_option maxHeartbeats 2000000 in
theorem meets_enum1 {v : Value} {o : Obj} {H : Heap → Prop} (B : Begins v o H) :
    Meets (Builtin.«enumerate.__new__» ⟨[.type "enumerate", v], []⟩) (fun _ R s => H s.heap ∧
      R (.ok (.ret (.ref (s.heap.push o).objs.size))) { s with heap := (s.heap.push o).push { cls := .type "enumerate", data := .fields #[.none, .bool false, .ref s.heap.objs.size, rawInt 0, .none, .none] } }) :=
  .of_wp fun prog w A R s h => by
    obtain ⟨hp, g, d, tk, os⟩ := s; obtain ⟨h1, h⟩ := h
    have hsub := sub_enumerate
    have q1 : ∀ {A' : Around} {E : Value → Shared → Prop} {Q : Value → Shared → Prop}, Q (.ref hp.objs.size) ⟨hp.push o, g, d, tk, os⟩ → wpAny (model prog w) A' (pyIter v) Q E ⟨hp, g, d, tk, os⟩ :=
      fun q => B.iter prog w _ _ ⟨hp, g, d, tk, os⟩ _ h1 q
    wp_walk using q1
    refine wpAny_stack_any fun st => wpAny_pure ?_
    split
    · rename_i c _ _ _ _ _
      cases (c == Value.type "enumerate")
      · wp_walk using q1
        exact ⟨_, rfl, h⟩
      · wp_walk using q1
        exact ⟨_, rfl, h⟩
    · wp_walk using q1
      exact ⟨_, rfl, h⟩
theorem call_enum_tuple {t : Addr} {items : Array Value} {Q : Value → Shared → Prop} (hL : s.heap.IsTuple t items)
    (h : ∀ h', IsEnum h' (s.heap.objs.size + 1) s.heap.objs.size 0 .none → h'.IsTupleIter s.heap.objs.size t 0 → h'.objs.size = s.heap.objs.size + 2 →
      (∀ b o, s.heap.get? b = some o → h'.get? b = some o) → Q (.ref (s.heap.objs.size + 1)) { s with heap := h' }) :
    wpAny (model prog w) A (call (.type "enumerate") [.ref t]) Q E s := by
  obtain ⟨o0, hl, hc, n, hd⟩ := hL
  refine callType_new F.called_enumerate (by decide) (F.typeCall_enumerate_1 _) (F.newCall_enumerate_1 _) (fun obj => F.args_object_init_2 obj _) F.entry_enumerate_new
    (meets_enum1 (begins_tuple t items)) ⟨⟨o0, hl, hc, n, hd⟩, ?_⟩
  have hz : (s.heap.push { cls := .type "tuple_iterator", data := .fields #[.ref t, .int 0 0] }).objs.size = s.heap.objs.size + 1 := Heap.size_push ..
  show _ ∧ _
  rw [hz]
  have he : IsEnum ((s.heap.push { cls := .type "tuple_iterator", data := .fields #[.ref t, .int 0 0] }).push
      { cls := .type "enumerate", data := .fields #[.none, .bool false, .ref s.heap.objs.size, rawInt 0, .none, .none] }) (s.heap.objs.size + 1) s.heap.objs.size 0 .none := by
    have := Heap.get?_push_size (s.heap.push { cls := .type "tuple_iterator", data := .fields #[.ref t, .int 0 0] })
      (o := { cls := .type "enumerate", data := .fields #[.none, .bool false, .ref s.heap.objs.size, rawInt 0, .none, .none] }) rfl
    rw [hz] at this; exact this
  exact ⟨⟨_, he, rfl⟩, h _ he ⟨_, Heap.get?_push_of_some _ (Heap.get?_push_size _ rfl), rfl, rfl⟩ (by rw [Heap.size_push, hz]) fun b o x => Heap.get?_push_of_some _ (Heap.get?_push_of_some _ x)⟩
end
/-- the tuple at a, each item in a new pair -/
def IteT (K : PySem.W.Frag) (a : Addr) : It :=
  ⟨fun i H => ∃ (xs : List V) (x : V), SqT K H a xs ∧ xs[i]? = some x, fun i H v H' => ∃ T x, v = .ref T ∧ H T = none ∧ H' = upd H T (.tup [.int (i : Nat), x]) ∧ ∀ xs, SqT K H a xs → xs[i]? = some x, fun i H => ∃ xs : List V, SqT K H a xs ∧ xs.length ≤ i⟩
open L2 in
theorem turn_enumT {P : Program} {w : World} {K : PySem.W.Frag} {elts : List Expr} {kk : Nat} {tpos : Pos} (a e it : Addr) (hat : a ≠ it) (hae : a ≠ e) :
    Turn P w K (.Tuple elts kk tpos) (IteT K a) [e, it] e (fun i h => (∃ old, IsEnum h e it ((i : Nat) : Int) old) ∧ h.IsTupleIter it a i ∧ e ≠ it) where
  mem := by simp
  obj := fun i h st b hb => by
    obtain ⟨⟨old, he⟩, ⟨o, ho, hc, hd⟩, _⟩ := st
    have e' : b = e ∨ b = it := by simpa using hb
    rcases e' with z | z
    · rw [z]; exact ⟨_, he, fun v q => nomatch q⟩
    · rw [z]; exact ⟨o, ho, fun v q => by rw [hd] at q; cases q⟩
  keep := fun i h h' st k => let ⟨⟨old, he⟩, hi, hne⟩ := st; ⟨⟨old, k e (by simp) _ he⟩, hi.at fun o q => k it (by simp) o q, hne⟩
  item := by
    intro X hP hw hK hc i pins s σ H E I hf st hg
    subst hP hw hK
    obtain ⟨⟨old, he⟩, hit, hne⟩ := st
    obtain ⟨xs, x, hq, hx⟩ := hg
    obtain ⟨its, rv, p, hz⟩ := I.tuple hq
    obtain ⟨u, hu, ru⟩ := rv.get hx
    have hel : e < s.heap.objs.size := Heap.lt_size he
    have hil : it < s.heap.objs.size := by obtain ⟨_, q, _⟩ := hit; exact Heap.lt_size q
    have hlt : i < its.toArray.size := by
      rw [List.size_toArray]
      exact (List.getElem?_eq_some_iff.mp hu).1
    refine wpAny_pyNext_enum_itemD (Draws.tuple (A := X.A.in1) (show X.A.in1.handled = none from I.ok.hd hc) it a hat its.toArray) he ⟨hit, p⟩ hlt hne (by simp only [List.mem_cons, List.not_mem_nil, or_false, not_or]; exact ⟨hne, Ne.symm hae⟩) fun x' h' tk hx' ho hit' hT hsz hk => ?_
    have ex : x' = u := by
      have h1 : its.toArray[i]? = some x' := hx'
      rw [List.getElem?_toArray, hu] at h1
      exact (Option.some.inj h1).symm
    subst ex
    refine ⟨_, rfl, wpAny_letOwnedTupleGo_enum (s := { s with heap := h', toks := tk + 1 }) ho fun h'' he' sb => ?_⟩
    have hT2 : h''.get? s.heap.objs.size = some { cls := .type "tuple", data := .seq #[.int i tk, x'] } := (sb.2 _ (Nat.ne_of_gt hel)).trans hT
    have new : ObjOk X.prog X.w (upd H s.heap.objs.size (.tup [.int (i : Nat), x])) h'' s.heap.objs.size (.tup [.int (i : Nat), x]) :=
      ⟨by show 2 ≤ sizeLine; decide, [.int i tk, x'], .cons ⟨_, rfl⟩ (.cons ru .nil), ⟨_, hT2, rfl, _, rfl⟩⟩
    have I1 : Inv X pins σ (upd H s.heap.objs.size (.tup [.int (i : Nat), x])) { s with heap := h'', toks := tk + 1 } :=
      I.turnedNew (ch := [e, it]) (fun b ob hb q => (sb.2 b (fun z => hb (by simp [z]))).trans (hk b ob (fun z => hb (by simp [z])) (fun z => hb (by simp [z])) q)) hf (Nat.le_refl _) new
    refine ⟨.ref s.heap.objs.size, _, I1, rfl, ⟨_, x, rfl, I.hok.fresh (Nat.le_refl _), rfl, fun ys hy => by rw [I.tuple_inj hy hq]; exact hx⟩, ⟨⟨x', ?_⟩, hit'.1.at fun o q => (sb.2 it (Ne.symm hne)).trans q, hne⟩, fun b hb => ?_⟩
    · have e1 : ((i + 1 : Nat) : Int) = (i : Int) + 1 := by omega
      rw [e1]; exact he'
    · have hb' : b < s.heap.objs.size := by
        have e' : b = e ∨ b = it := by simpa using hb
        rcases e' with z | z
        · rw [z]; exact hel
        · rw [z]; exact hil
      rw [upd_ne (Nat.ne_of_lt hb')]
      exact (hf b hb).1
  done := by
    intro X hP hw hK hc i pins s σ H E I hf st hg
    subst hP hw hK
    obtain ⟨⟨old, he⟩, hit, hne⟩ := st
    obtain ⟨xs, hq, hx⟩ := hg
    obtain ⟨its, rv, p, hz⟩ := I.tuple hq
    obtain ⟨f0, f1, f2, f3, f4, f5⟩ := hf it (by simp)
    have hl := rv.length
    -- behind the end: the iterator stands at the end or beyond
    have hT : s.TypeIs (.ref e) "enumerate" := ⟨_, he, rfl⟩
    unfold pyNext
    refine wpAny_bind (wpAny_attempt (wpAny_callSpecial?_slot (name := Str.ofString "__next__") hT F.slot_enumerate_next
      (wpAny_call_entry F.slot_enumerate_next hT F.entry_enumerate_next ?_ (F.args_enumerate_next_1 _))))
    show wpAny _ _ (field (.ref e) 2 >>= _) _ _ _
    refine wpAny_bind (wpAny_field he rfl (x := .ref it) rfl ?_)
    refine wpAny_bind (wpAny_nextOf_tuple_end (I.ok.hd hc) hit (show s.heap.IsTuple a its.toArray from p) (by simp; omega) fun h' x he' hx' => ?_)
    obtain ⟨o, ho, hcc⟩ := hx'
    refine wpAny_bind (wpAny_isInstance (T := "StopIteration") (b := true) ⟨o, ho, hcc⟩ isSubtype_stop ?_)
    exact wpAny_pure ⟨rfl, I.turned (t' := s.toks) (fun b o hb q => he' b o hb q) f0 f1 f3 f4 f5⟩
  self := fun A i s Q E st h => let ⟨⟨_, he⟩, _⟩ := st; wpAny_pyIter_enum he h
end MS
end
section
set_option linter.all false
set_option maxRecDepth 100000
set_option maxHeartbeats 1000000
/-! MS8: what is walked, as ML walks it. -/
namespace MS
open PySem
open L2 (V Hp HO SqL SqT Rd upd upd_same upd_ne RelV Vals TE TA TT TS TI VK XK WX Cx Inv PE PT PA PS PSs PI OpR It Turn PIE)

/-- the iterator gives these items, wherever the state has gone since -/
def Rl (c : Cn) (J : It) (xs : List ML.D) (g : ML.Gd) (ρ0 : List Addr) (H0 : Hp) : Prop := ∀ ρ S H, Fr ρ0 H0 ρ H → RS c ρ H S → g.ok S = true → xs.length ≤ sizeLine ∧
  (∀ i, xs.length ≤ i → J.stop i H) ∧ ∀ i d, xs[i]? = some d → J.go i H ∧ ∀ x H', J.yld i H x H' → Fr ρ H ρ H' ∧ RS c ρ H' S ∧ RD c ρ H' d x
def tIt (c : Cn) (W : WX) (f : ML.Env → ML.St → ML.Out (List ML.D × ML.Gd)) : TI := fun τ H R => ∃ ρ S σ, RS c ρ H S ∧ RE c ρ H σ τ ∧ Pst c (Wsh c W τ) ρ H (f σ S) fun p S' ρ' H' => ∀ J, Rl c J p.1 p.2 ρ' H' → R J H'
section
variable {X : Cx} {c : Cn} {W : WX} {e tg : Expr} {pos : Pos} {ρ ρ' : List Addr} {H H' : Hp} {S : ML.St}
theorem PI.mono {t t' : TI} (h : PI X tg e t) (f : ∀ τ H R, t' τ H R → t τ H R) : PI X tg e t' := ⟨fun pins s σ H R I q => h.run pins s σ H R I (f σ H R q)⟩
theorem RDs.none {ds : List ML.D} {vs : List V} {i : Nat} (r : RDs c ρ H ds vs) (h : ds.length ≤ i) : vs.length ≤ i := by rw [← r.len]; exact h
/-- a list | a tuple that stands -/
theorem Rl.list {p : ML.Li} {a : Addr} (h : Lk c p ρ H a) (rs : RS c ρ H S) (hb : p.b = true) : Rl c (L2.Itl c.K a) p.xs p.g ρ H := fun ρ' S' H' fr rs' g => by
  obtain ⟨vs, r, q, _, _, hz⟩ := (h.mono rs fr).at_ rs' g
  refine ⟨by simpa using hz, fun i hi => ⟨vs, q hb, r.none hi⟩, fun i d e => ?_⟩
  obtain ⟨v, e1, r1⟩ := r.get e
  refine ⟨⟨vs, v, q hb, e1⟩, fun x H2 y => ?_⟩
  obtain ⟨e2, y⟩ := y
  subst e2
  have e3 := (y vs (q hb)).symm.trans e1
  cases e3
  exact ⟨Fr.refl, rs', r1⟩
theorem Rl.tup {p : ML.Li} {a : Addr} (h : Lk c p ρ H a) (rs : RS c ρ H S) (hb : p.b = false) : Rl c (L2.Itt c.K a) p.xs p.g ρ H := fun ρ' S' H' fr rs' g => by
  obtain ⟨vs, r, _, q, _, hz⟩ := (h.mono rs fr).at_ rs' g
  refine ⟨by simpa using hz, fun i hi => ⟨vs, q hb, r.none hi⟩, fun i d e => ?_⟩
  obtain ⟨v, e1, r1⟩ := r.get e
  refine ⟨⟨vs, v, q hb, e1⟩, fun x H2 y => ?_⟩
  obtain ⟨e2, y⟩ := y
  subst e2
  have e3 := (y vs (q hb)).symm.trans e1
  cases e3
  exact ⟨Fr.refl, rs', r1⟩
/-- a pair just made -/
theorem pair_made {d1 d2 : ML.D} {x1 x2 : V} {T : Addr} (rs : RS c ρ H S) (hT : H T = none) (r1 : RD c ρ H d1 x1) (r2 : RD c ρ H d2 x2) :
    Fr ρ H ρ (upd H T (.tup [x1, x2])) ∧ RS c ρ (upd H T (.tup [x1, x2])) S ∧ RD c ρ (upd H T (.tup [x1, x2])) (.tup [d1, d2]) (.ref T) := by
  have f : Fr ρ H ρ (upd H T (.tup [x1, x2])) := Fr.new hT
  refine ⟨f, rs.new hT, ?_⟩
  simp only [RD, RDs]
  exact ⟨by show 2 ≤ sizeLine; decide, T, [x1, x2], rfl, .inl (.inl upd_same), x1, [x2], rfl, RD.mono rs f _ _ r1, x2, [], rfl, RD.mono rs f _ _ r2, rfl⟩
theorem zipIdx_get {xs : List ML.D} {i : Nat} {d : ML.D} (e : (xs.zipIdx.map fun q => ML.D.tup [.int q.2, q.1])[i]? = some d) : ∃ x, xs[i]? = some x ∧ d = .tup [.int (i : Nat), x] := by
  rw [List.getElem?_map, List.getElem?_zipIdx] at e
  cases h : xs[i]? with
  | none => rw [h] at e; simp at e
  | some x =>
    rw [h] at e
    simp at e
    exact ⟨x, rfl, e.symm⟩
theorem Rl.enumL {p : ML.Li} {a : Addr} (h : Lk c p ρ H a) (rs : RS c ρ H S) (hb : p.b = true) : Rl c (L2.Ite c.K a) (p.xs.zipIdx.map fun q => ML.D.tup [.int q.2, q.1]) p.g ρ H := fun ρ' S' H' fr rs' g => by
  obtain ⟨vs, r, q, _, _, hz⟩ := (h.mono rs fr).at_ rs' g
  refine ⟨by simpa using hz, fun i hi => ⟨vs, q hb, r.none (by simpa using hi)⟩, fun i d e => ?_⟩
  obtain ⟨x, e0, ed⟩ := zipIdx_get e
  subst ed
  obtain ⟨v, e1, r1⟩ := r.get e0
  refine ⟨⟨vs, v, q hb, e1⟩, fun y H2 hy => ?_⟩
  obtain ⟨T, y1, ey, hT, e2, hy⟩ := hy
  subst ey e2
  have e3 := (hy vs (q hb)).symm.trans e1
  cases e3
  exact pair_made rs' hT (by simp [RD]) r1
theorem Rl.enumT {p : ML.Li} {a : Addr} (h : Lk c p ρ H a) (rs : RS c ρ H S) (hb : p.b = false) : Rl c (IteT c.K a) (p.xs.zipIdx.map fun q => ML.D.tup [.int q.2, q.1]) p.g ρ H := fun ρ' S' H' fr rs' g => by
  obtain ⟨vs, r, _, q, _, hz⟩ := (h.mono rs fr).at_ rs' g
  refine ⟨by simpa using hz, fun i hi => ⟨vs, q hb, r.none (by simpa using hi)⟩, fun i d e => ?_⟩
  obtain ⟨x, e0, ed⟩ := zipIdx_get e
  subst ed
  obtain ⟨v, e1, r1⟩ := r.get e0
  refine ⟨⟨vs, v, q hb, e1⟩, fun y H2 hy => ?_⟩
  obtain ⟨T, y1, ey, hT, e2, hy⟩ := hy
  subst ey e2
  have e3 := (hy vs (q hb)).symm.trans e1
  cases e3
  exact pair_made rs' hT (by simp [RD]) r1
theorem zip_get {xs ys : List ML.D} {i : Nat} {d : ML.D} (e : ((xs.zip ys).map fun r => ML.D.tup [r.1, r.2])[i]? = some d) : ∃ x y, xs[i]? = some x ∧ ys[i]? = some y ∧ d = .tup [x, y] := by
  rw [List.getElem?_map] at e
  cases h : (xs.zip ys)[i]? with
  | none => rw [h] at e; simp at e
  | some q =>
    rw [h] at e
    simp at e
    obtain ⟨h1, h2⟩ := List.getElem?_zip_eq_some.mp h
    exact ⟨q.1, q.2, h1, h2, e.symm⟩
theorem Rl.zipL {p q : ML.Li} {a b : Addr} (h : Lk c p ρ H a) (h' : Lk c q ρ H b) (rs : RS c ρ H S) (hb : p.b = true) (hb' : q.b = true) : Rl c (L2.Itz c.K a b) ((p.xs.zip q.xs).map fun r => ML.D.tup [r.1, r.2]) (p.g ++ q.g) ρ H := fun ρ' S' H' fr rs' g => by
  have g1 : p.g.ok S' = true ∧ q.g.ok S' = true := by
    unfold ML.Gd.ok at g ⊢
    simpa using g
  obtain ⟨vs, r, k, _, _, hz⟩ := (h.mono rs fr).at_ rs' g1.1
  obtain ⟨ws, r', k', _⟩ := (h'.mono rs fr).at_ rs' g1.2
  refine ⟨by simp only [List.length_map, List.length_zip]; omega, fun i hi => ⟨vs, ws, k hb, k' hb', ?_⟩, fun i d e => ?_⟩
  · rw [← r.len, ← r'.len]
    simp only [List.length_map, List.length_zip] at hi
    omega
  · obtain ⟨x, y, e1, e2, ed⟩ := zip_get e
    subst ed
    obtain ⟨v, e3, r1⟩ := r.get e1
    obtain ⟨w, e4, r2⟩ := r'.get e2
    refine ⟨⟨vs, ws, v, w, k hb, k' hb', e3, e4⟩, fun z H2 hz => ?_⟩
    obtain ⟨T, y1, y2, ez, hT, e5, h1, h2⟩ := hz
    subst ez e5
    have e6 := (h1 vs (k hb)).symm.trans e3
    have e7 := (h2 ws (k' hb')).symm.trans e4
    cases e6
    cases e7
    exact pair_made rs' hT r1 r2
theorem Rl.zipT {p q : ML.Li} {a b : Addr} (h : Lk c p ρ H a) (h' : Lk c q ρ H b) (rs : RS c ρ H S) (hb : p.b = false) (hb' : q.b = false) : Rl c (RZ.ItzT c.K a b) ((p.xs.zip q.xs).map fun r => ML.D.tup [r.1, r.2]) (p.g ++ q.g) ρ H := fun ρ' S' H' fr rs' g => by
  have g1 : p.g.ok S' = true ∧ q.g.ok S' = true := by
    unfold ML.Gd.ok at g ⊢
    simpa using g
  obtain ⟨vs, r, _, k, _, hz⟩ := (h.mono rs fr).at_ rs' g1.1
  obtain ⟨ws, r', _, k', _⟩ := (h'.mono rs fr).at_ rs' g1.2
  refine ⟨by simp only [List.length_map, List.length_zip]; omega, fun i hi => ⟨vs, ws, k hb, k' hb', ?_⟩, fun i d e => ?_⟩
  · rw [← r.len, ← r'.len]
    simp only [List.length_map, List.length_zip] at hi
    omega
  · obtain ⟨x, y, e1, e2, ed⟩ := zip_get e
    subst ed
    obtain ⟨v, e3, r1⟩ := r.get e1
    obtain ⟨w, e4, r2⟩ := r'.get e2
    refine ⟨⟨vs, ws, v, w, k hb, k' hb', e3, e4⟩, fun z H2 hz => ?_⟩
    obtain ⟨T, y1, y2, ez, hT, e5, h1, h2⟩ := hz
    subst ez e5
    have e6 := (h1 vs (k hb)).symm.trans e3
    have e7 := (h2 ws (k' hb')).symm.trans e4
    cases e6
    cases e7
    exact pair_made rs' hT r1 r2
theorem Rl.rng (i j : Int) (hz : j - i ≤ ML.lim) : Rl c (L2.Itr i (j - i).toNat) (ML.rngD i j) [] ρ H := fun ρ' S' H' fr rs' g => by
  unfold ML.rngD
  refine ⟨by simp only [List.length_map, List.length_range]; exact lim_line (by unfold ML.lim at hz ⊢; omega), fun k hk => (by simpa using hk : (j - i).toNat ≤ k), fun k d e => ?_⟩
  rw [List.getElem?_map] at e
  cases h : (List.range (j - i).toNat)[k]? with
  | none => rw [h] at e; simp at e
  | some q =>
    rw [h] at e
    simp at e
    obtain ⟨h1, h2⟩ := List.getElem?_eq_some_iff.mp h
    simp at h1 h2
    subst h2 e
    refine ⟨(show k < (j - i).toNat by omega), fun x H2 hy => ?_⟩
    obtain ⟨e1, e2⟩ := hy
    subst e1 e2
    exact ⟨Fr.refl, rs', by simp [RD]⟩
theorem Rl.str {s : ML.Sg} (hs : sgOk s) : Rl c (L2.Its (sg s)) (ML.chars s) [] ρ H := fun ρ' S' H' fr rs' g => by
  unfold ML.chars
  refine ⟨by simp only [List.length_map]; exact Nat.le_trans hs.2 (by decide), fun k hk => ?_, fun k d e => ?_⟩
  · show (sg s).cps.size ≤ k
    simpa [sg] using hk
  · rw [List.getElem?_map] at e
    cases h : s[k]? with
    | none => rw [h] at e; simp at e
    | some q =>
      rw [h] at e
      simp at e
      subst e
      obtain ⟨h1, h2⟩ := List.getElem?_eq_some_iff.mp h
      refine ⟨by show k < (sg s).cps.size; simpa [sg] using h1, fun x H2 hy => ?_⟩
      obtain ⟨e1, c', e2, e3⟩ := hy
      subst e1 e3
      have e4 : s[k]? = some c' := by simpa [sg] using e2
      rw [h] at e4; cases e4
      refine ⟨Fr.refl, rs', ?_⟩
      simp only [RD]
      exact ⟨rfl, fun z hz => by have : z = q := by simpa using hz
                                 subst this; exact hs.1 z (List.mem_of_getElem? h), by show 1 ≤ _; decide⟩
/-! ### iter of values -/
/-- iter(v) by values -/
def ItR (X : Cx) (tg : Expr) (r : V → Hp → (It → Hp → Prop) → Prop) : Prop := ∀ (pins : List (Addr × Obj)) (s : Shared) (σ : L2.St) (H : Hp) (x : V) (v : Value) (R : It → Hp → Prop), Inv X pins σ H s → RelV x v → r x H R →
  wpAny (model X.prog X.w) X.A (pyIter v) (PIE X pins σ tg R) X.xe s
theorem pi_val {te : TE} {r : V → Hp → (It → Hp → Prop) → Prop} (h : PE X e te) (hr : ItR X tg r) : PI X tg e (fun σ H R => te σ H fun x H1 => r x H1 R) :=
  ⟨fun pins s σ H R I q => L2.thn (h.run pins s σ H _ I q) fun v s1 ⟨x, H1, I1, r1, q1⟩ => hr pins s1 σ H1 x v R I1 r1 q1⟩
theorem itr_list : ItR X tg fun x H R => ∃ a, x = .ref a ∧ (∃ xs, SqL X.K H a xs) ∧ R (L2.Itl X.K a) H := by
  intro pins s σ H x v R I r1 h
  obtain ⟨a, e, ⟨xs, hq⟩, q⟩ := h
  subst e
  cases r1
  obtain ⟨its, rv, p, hz⟩ := I.list hq
  refine wpAny_pyIter_list p.isList ?_
  refine ⟨s.heap.objs.size, [s.heap.objs.size], _, _, H, rfl, I.kept (t' := s.toks) fun b o e => Heap.get?_push_of_some _ e, L2.turn_list a _, ⟨_, Heap.get?_push_size _ rfl, rfl, rfl⟩, fun b hb => ?_, q⟩
  have e : b = s.heap.objs.size := by simpa using hb
  subst e
  exact I.fpOk (Nat.le_refl _) (I.hok.fresh (Nat.le_refl _))
theorem itr_tup : ItR X tg fun x H R => ∃ a, x = .ref a ∧ (∃ xs, SqT X.K H a xs) ∧ R (L2.Itt X.K a) H := by
  intro pins s σ H x v R I r1 h
  obtain ⟨a, e, ⟨xs, hq⟩, q⟩ := h
  subst e
  cases r1
  obtain ⟨its, rv, p, hz⟩ := I.tuple hq
  refine wpAny_pyIter_tuple (show s.heap.IsTuple a its.toArray from p) ?_
  refine ⟨s.heap.objs.size, [s.heap.objs.size], _, _, H, rfl, I.kept (t' := s.toks) fun b o e => Heap.get?_push_of_some _ e, L2.turn_tuple a _, ⟨_, Heap.get?_push_size _ rfl, rfl, rfl⟩, fun b hb => ?_, q⟩
  have e : b = s.heap.objs.size := by simpa using hb
  subst e
  exact I.fpOk (Nat.le_refl _) (I.hok.fresh (Nat.le_refl _))
theorem itr_str : ItR X tg fun y H R => ∃ x, y = .str x ∧ R (L2.Its x) H := by
  intro pins s σ H y v R I r1 h
  obtain ⟨x, ex, q⟩ := h
  subst ex
  obtain ⟨t, rfl⟩ := r1
  cases ha : x.cps.all (· < 128)
  · exact wpAny_pyIter_wide ha (L2.pi_one (tk := s.toks) I _ (L2.turn_str _ x t "str_iterator" (.inr rfl)) ⟨_, Heap.get?_push_size _ rfl, rfl, rfl⟩ q)
  · exact wpAny_pyIter_ascii ha (L2.pi_one (tk := s.toks) I _ (L2.turn_str _ x t "str_ascii_iterator" (.inl rfl)) ⟨_, Heap.get?_push_size _ rfl, rfl, rfl⟩ q)
theorem ItR.or {r r' : V → Hp → (It → Hp → Prop) → Prop} (h : ItR X tg r) (h' : ItR X tg r') : ItR X tg fun x H R => r x H R ∨ r' x H R := by
  intro pins s σ H x v R I r1 q
  rcases q with q | q
  · exact h pins s σ H x v R I r1 q
  · exact h' pins s σ H x v R I r1 q
/-! ### the forms -/
theorem it_l {f : ML.Env → ML.St → ML.Out ML.Li} (hK : X.K = c.K) (h : PE X e (tL c W f)) (hg : ∀ σ S q S', f σ S = .ok q S' → q.g.ok S' = true) : PI X tg e (tIt c W fun σ S => (f σ S).bnd fun p S => .ok (p.xs, p.g) S) :=
  PI.mono (pi_val h (itr_list.or itr_tup)) fun τ H R h => by
    obtain ⟨ρ, S, σ, rs, re, p⟩ := h
    refine ⟨ρ, S, σ, rs, re, p.bnd.monoE fun q S' ρ' H' ee fr rs' p1 a lk => ?_⟩
    have hgd := hg _ _ _ _ ee
    obtain ⟨vs, r, k1, k2, _, _⟩ := lk.at_ rs' hgd
    have p2 := p1.ok rs'
    cases hb : q.b with
    | true => exact .inl ⟨a, rfl, ⟨vs, by rw [hK]; exact k1 hb⟩, p2 _ (by rw [hK]; exact Rl.list lk rs' hb)⟩
    | false => exact .inr ⟨a, rfl, ⟨vs, by rw [hK]; exact k2 hb⟩, p2 _ (by rw [hK]; exact Rl.tup lk rs' hb)⟩
theorem it_e {f : ML.Env → ML.St → ML.Out ML.D} (hK : X.K = c.K) (h : PE X e (tE c W f)) : PI X tg e (tIt c W fun σ S => (f σ S).bnd fun x S => match x with
    | .str s => .ok (ML.chars s, []) S
    | .tup xs => .ok (xs, []) S
    | .rol xs => .ok (xs, []) S
    | .loc l => match ML.lstAt S l with
      | some xs => .ok (xs, [(l, .lst xs)]) S
      | none => .bad
    | _ => .bad) :=
  PI.mono (pi_val h ((itr_list.or itr_tup).or itr_str)) fun τ H R h => by
    obtain ⟨ρ, S, σ, rs, re, p⟩ := h
    refine ⟨ρ, S, σ, rs, re, p.bnd.mono fun d S' ρ' H' fr rs' p1 v r => ?_⟩
    cases d with
    | str s =>
      simp only [RD] at r
      exact .inr ⟨sg s, r.1, p1.ok rs' _ (Rl.str r.2)⟩
    | tup xs =>
      simp only [RD] at r
      obtain ⟨z, a, vs, ev, t, g⟩ := r
      have lk : Lk c ⟨false, xs, [], false⟩ ρ' H' a := ⟨rfl, z, vs, t, g⟩
      exact .inl (.inr ⟨a, ev, ⟨vs, by rw [hK]; exact t⟩, p1.ok rs' _ (by rw [hK]; exact Rl.tup lk rs' rfl)⟩)
    | rol xs =>
      simp only [RD] at r
      obtain ⟨z, a, vs, ev, t, g⟩ := r
      have lk : Lk c ⟨true, xs, [], true⟩ ρ' H' a := .inr (.inl ⟨rfl, rfl, z, vs, t, g⟩)
      exact .inl (.inl ⟨a, ev, ⟨vs, by rw [hK]; exact t.l⟩, p1.ok rs' _ (by rw [hK]; exact Rl.list lk rs' rfl)⟩)
    | loc l =>
      dsimp only at p1
      cases el : ML.lstAt S' l with
      | none => rw [el] at p1; exact p1.elim
      | some xs =>
        rw [el] at p1
        obtain ⟨a, vs, ev, ea, t, g, _⟩ := rs'.lst (lstAt_of el) r
        have lk : Lk c ⟨true, xs, [(l, .lst xs)], false⟩ ρ' H' a := .inr (.inr ⟨l, rfl, rfl, ea⟩)
        exact .inl (.inl ⟨a, ev, ⟨vs, .inl (.inl t)⟩, p1.ok rs' _ (by rw [hK]; exact Rl.list lk rs' rfl)⟩)
    | _ => exact p1.elim
end
end MS
end
section
set_option linter.all false
set_option maxRecDepth 100000
set_option maxHeartbeats 1000000
/-! MS9: targets, comprehensions. -/
namespace MS
open PySem
open L2 (V Hp HO SqL SqT Rd upd upd_same upd_ne RelV Vals TE TA TT TS TI TG TGs VK XK WX Cx Inv PE PT PA PS PSs PI PG PGs OpR It Turn PIE)

/-! ### a heap without one object -/
def del (H : Hp) (D : Addr) : Hp := fun b => if b = D then none else H b
theorem del_ne {H : Hp} {D b : Addr} (h : b ≠ D) : del H D b = H b := if_neg h
theorem del_same {H : Hp} {D : Addr} : del H D D = none := if_pos rfl
theorem upd_del {H : Hp} {D : Addr} {o : HO} (h : H D = some o) : upd (del H D) D o = H := by
  funext b
  by_cases e : b = D
  · subst e; rw [upd_same, h]
  · rw [upd_ne e, del_ne e]
theorem del_none {H : Hp} {D : Addr} (h : H D = none) : del H D = H := by
  funext b
  by_cases e : b = D
  · subst e; rw [del_same, h]
  · rw [del_ne e]
section
variable {c : Cn} {ρ ρ' : List Addr} {H H' : Hp} {S : ML.St} {D : Addr} {vs : List V}
theorem sqT_del (hD : H D = some (.lst vs)) {a : Addr} {xs : List V} (h : SqT c.K H a xs) : SqT c.K (del H D) a xs := by
  rcases h with h | h
  · refine .inl ?_
    rcases h with h | ⟨o, h⟩
    · have ne : a ≠ D := fun z => by subst z; rw [hD] at h; injection h with h; cases h
      exact .inl (by rw [del_ne ne]; exact h)
    · have ne : a ≠ D := fun z => by subst z; rw [hD] at h; injection h with h; cases h
      exact .inr ⟨o, by rw [del_ne ne]; exact h⟩
  · exact .inr h
theorem sqR_del (hD : H D = some (.lst vs)) {a : Addr} {xs : List V} (h : SqR c.K H a xs) : SqR c.K (del H D) a xs := by
  rcases h with ⟨o, h⟩ | h
  · have ne : a ≠ D := fun z => by subst z; rw [hD] at h; injection h with h; cases h
    exact .inl ⟨o, by rw [del_ne ne]; exact h⟩
  · exact .inr h
mutual
theorem RD.del (hD : H D = some (.lst vs)) : ∀ (d : ML.D) (v : V), RD c ρ H d v → RD c ρ (del H D) d v
  | .non, _, r => by simpa [RD] using r
  | .bl _, _, r => by simpa [RD] using r
  | .int _, _, r => by simpa [RD] using r
  | .str _, _, r => by simpa [RD] using r
  | .tup ds, v, r => by
    simp only [RD] at r ⊢
    obtain ⟨z, p, vs, e, q, rs⟩ := r
    exact ⟨z, p, vs, e, sqT_del hD q, RDs.del hD ds vs rs⟩
  | .loc n, v, r => by simpa [RD] using r
  | .rol ds, v, r => by
    simp only [RD] at r ⊢
    obtain ⟨z, p, vs, e, q, rs⟩ := r
    exact ⟨z, p, vs, e, sqR_del hD q, RDs.del hD ds vs rs⟩
theorem RDs.del (hD : H D = some (.lst vs)) : ∀ (d : List ML.D) (v : List V), RDs c ρ H d v → RDs c ρ (del H D) d v
  | [], _, r => by simpa [RDs] using r
  | d :: ds, v, r => by
    simp only [RDs] at r ⊢
    obtain ⟨w, q, e, r1, r2⟩ := r
    exact ⟨w, q, e, RD.del hD d w r1, RDs.del hD ds q r2⟩
end
theorem RKs.del (hD : H D = some (.lst vs)) : ∀ {d : List (ML.D × ML.D)} {v : List (L2.Key × V)}, RKs c ρ H d v → RKs c ρ (MS.del H D) d v
  | [], _, r => r
  | p :: ps, _, ⟨k, v, r', e, e1, e2, r1, r2⟩ => ⟨k, v, r', e, e1, e2, RD.del hD _ _ r1, RKs.del hD r2⟩
theorem RFs.del (hD : H D = some (.lst vs)) : ∀ {d : List (Nat × ML.D)} {v : List (Str × V)}, RFs c ρ H d v → RFs c ρ (MS.del H D) d v
  | [], _, r => r
  | p :: ps, _, ⟨v, r', e, r1, r2⟩ => ⟨v, r', e, RD.del hD _ _ r1, RFs.del hD r2⟩
theorem RS.del (rs : RS c ρ H S) (hD : H D = some (.lst vs)) (hn : D ∉ ρ) : RS c ρ (MS.del H D) S := by
  refine ⟨rs.len, rs.nd, fun i o p e1 e2 => ?_⟩
  have ne : p ≠ D := fun z => by subst z; exact hn (List.mem_of_getElem? e2)
  have r := rs.obj i o p e1 e2
  cases o with
  | lst xs => obtain ⟨z, ws, e, r⟩ := r; exact ⟨z, ws, by rw [del_ne ne]; exact e, RDs.del hD _ _ r⟩
  | dct xs => obtain ⟨ws, e, nd, r⟩ := r; exact ⟨ws, by rw [del_ne ne]; exact e, nd, r.del hD⟩
  | ins k xs => obtain ⟨d, ws, e, r⟩ := r; exact ⟨d, ws, by rw [del_ne ne]; exact e, r.del hD⟩
  | exn _ _ => exact r.elim
theorem Fr.del (f : Fr ρ H ρ' H') : Fr ρ (MS.del H D) ρ' (MS.del H' D) := by
  obtain ⟨t, e, n⟩ := f.ext
  refine ⟨⟨t, e, fun p hp => ⟨?_, (n p hp).2⟩⟩, fun a o ha e => ?_⟩
  · by_cases z : p = D
    · rw [z]; exact del_same
    · rw [del_ne z]; exact (n p hp).1
  · have ne : a ≠ D := fun z => by subst z; rw [del_same] at e; cases e
    rw [del_ne ne] at e ⊢
    exact f.keep a o ha e
theorem Fr.notin (f : Fr ρ H ρ' H') (hD : H D = some (.lst vs)) (hn : D ∉ ρ) : D ∉ ρ' := fun z => by
  obtain ⟨t, e, n⟩ := f.ext
  rw [e] at z
  rcases List.mem_append.mp z with z | z
  · exact hn z
  · rw [(n D z).1] at hD; cases hD
/-- a run seen beside an object that is nobody's -/
theorem Pst.beside {α : Type} {w w' : XW} {x : ML.Out α} {k : α → ML.St → List Addr → Hp → Prop} (p : Pst c w ρ (MS.del H D) x k) (hx : ∀ n fs S, x ≠ .exc n fs S) (hD : H D = some (.lst vs)) (hn : D ∉ ρ) :
    Pst c w' ρ H x fun a S' ρ' H' => k a S' ρ' (MS.del H' D) ∧ H' D = some (.lst vs) ∧ D ∉ ρ' := by
  cases x with
  | bad => exact p
  | exc n fs S => exact absurd rfl (hx n fs S)
  | ok a S => exact fun ρ' H' f r => ⟨p ρ' _ f.del (r.del (f.keep D _ hn hD) (f.notin hD hn)), f.keep D _ hn hD, f.notin hD hn⟩
end
theorem nox_ne {α : Type} (x : ML.Out α) : ∀ n fs S, x.nox ≠ .exc n fs S := by
  intro n fs S
  cases x <;> simp [ML.Out.nox]
theorem nox_bnd {α β : Type} {x : ML.Out α} {g : α → ML.St → ML.Out β} : (x.bnd g).nox = x.nox.bnd fun a S => (g a S).nox := by
  cases x <;> rfl

/-! ### targets -/
def UpdS (ts : List Nat) (τ τ' : L2.St) : Prop := τ'.length = τ.length ∧ ∀ i, i ∉ ts → τ'[i]? = τ[i]?
def tG (c : Cn) (W : WX) (ts : List Nat) (f : ML.D → ML.Env → ML.St → ML.Out ML.Env) : TG := fun v τ H Q => ∃ ρ S σ d, RS c ρ H S ∧ RE c ρ H σ τ ∧ RD c ρ H d v ∧
  Pst c (Wsh c W τ) ρ H (f d σ S) fun σ' S' ρ' H' => ∀ τ', RE c ρ' H' σ' τ' → UpdS ts τ τ' → Q τ' H'
def tGs (c : Cn) (W : WX) (ts : List Nat) (f : List ML.D → ML.Env → ML.St → ML.Out ML.Env) : TGs := fun v τ H Q => ∃ ρ S σ d, RS c ρ H S ∧ RE c ρ H σ τ ∧ RDs c ρ H d v ∧
  Pst c (Wsh c W τ) ρ H (f d σ S) fun σ' S' ρ' H' => ∀ τ', RE c ρ' H' σ' τ' → UpdS ts τ τ' → Q τ' H'
theorem UpdS.refl {ts : List Nat} {τ : L2.St} : UpdS ts τ τ := ⟨rfl, fun _ _ => rfl⟩
theorem UpdS.trans {ts us : List Nat} {τ τ1 τ2 : L2.St} (a : UpdS ts τ τ1) (b : UpdS us τ1 τ2) : UpdS (ts ++ us) τ τ2 :=
  ⟨b.1.trans a.1, fun i hi => by
    simp only [List.mem_append, not_or] at hi
    exact (b.2 i hi.2).trans (a.2 i hi.1)⟩
theorem RE.set {c : Cn} {ρ : List Addr} {H : Hp} {σ : ML.Env} {τ : L2.St} (re : RE c ρ H σ τ) {d : ML.D} {v : V} (r : RD c ρ H d v) (i : Nat) : RE c ρ H (σ.set i (some d)) (τ.set i (some v)) := by
  refine ⟨by rw [List.length_set, List.length_set]; exact re.1, fun j d' e => ?_⟩
  by_cases h : i = j
  · subst h
    by_cases hl : i < σ.length
    · rw [List.getElem?_set_self hl] at e
      have e' : d = d' := by simpa using e
      subst e'
      exact ⟨v, by rw [List.getElem?_set_self (by rw [← re.1]; exact hl)], r⟩
    · rw [List.getElem?_eq_none (by simpa using hl)] at e; cases e
  · rw [List.getElem?_set_ne h] at e ⊢
    exact re.2 j d' e
section
variable {X : Cx} {c : Cn} {W : WX} {pos : Pos}
theorem PG.mono {t t' : TG} {tg : Expr} (h : PG X tg t) (f : ∀ v τ H Q, t' v τ H Q → t v τ H Q) : PG X tg t' := ⟨fun pins s σ H v u Q I r q => h.run pins s σ H v u Q I r (f v σ H Q q)⟩
theorem PGs.mono {t t' : TGs} {tg : List Expr} (h : PGs X tg t) (f : ∀ v τ H Q, t' v τ H Q → t v τ H Q) : PGs X tg t' := ⟨fun pins s σ H v u Q I r q => h.run pins s σ H v u Q I r (f v σ H Q q)⟩
theorem g_name {i : Nat} {x : Str} (hN : X.N.Nodup) (hi : X.N[i]? = some x) (hx : L2.Loc X.env.scope x) (hf : X.fn x = true ∨ X.env.scope.names.lookup x = some .local) : PG X (.Name x pos) (tG c W [i] fun d σ S => .ok (σ.set i (some d)) S) :=
  PG.mono (L2.pg_name hN hi hx hf) fun v τ H Q h => by
    obtain ⟨ρ, S, σ, d, rs, re, rd, p⟩ := h
    refine p.ok rs _ (re.set rd i) ⟨by simp, fun j hj => ?_⟩
    simp only [List.mem_cons, List.not_mem_nil, or_false] at hj
    rw [List.getElem?_set_ne (Ne.symm hj)]
theorem gs_nil : PGs X [] (tGs c W [] fun ds σ S => match ds with
    | [] => .ok σ S
    | _ => .bad) := PGs.mono L2.pgs_nil fun v τ H Q h => by
  obtain ⟨ρ, S, σ, d, rs, re, rd, p⟩ := h
  cases d with
  | nil =>
    simp only [RDs] at rd
    exact ⟨rd, p.ok rs _ re UpdS.refl⟩
  | cons _ _ => exact p.elim
theorem assignEach_cons {e : Expr} {es : List Expr} {env : Env} (h : ∀ x p, e ≠ .Starred x p) : (assignEach (e :: es) env).map (·.2) = assign e env :: (assignEach es env).map (·.2) := by
  cases e <;> first | rfl | exact absurd rfl (h _ _)
theorem gs_cons {e : Expr} {es : List Expr} {ts us : List Nat} {f : ML.D → ML.Env → ML.St → ML.Out ML.Env} {fs : List ML.D → ML.Env → ML.St → ML.Out ML.Env} (hW : ∀ n d τ τ' H, W n d τ H → W n d τ' H) (h : ∀ x p, e ≠ .Starred x p)
    (h1 : PG X e (tG c W ts f)) (h2 : PGs X es (tGs c W us fs)) : PGs X (e :: es) (tGs c W (ts ++ us) fun ds σ S => match ds with
      | d :: ds => (f d σ S).bnd fun σ S => fs ds σ S
      | [] => .bad) := PGs.mono (L2.pgs_cons h1 h2 (assignEach_cons h)) fun v τ H Q hq => by
  obtain ⟨ρ, S, σ, d, rs, re, rd, p⟩ := hq
  cases d with
  | nil => exact p.elim
  | cons d ds =>
    simp only [RDs] at rd
    obtain ⟨w, l, e1, r1, r2⟩ := rd
    refine ⟨w, l, e1, ρ, S, σ, d, rs, re, r1, p.bnd.mono fun σ1 S1 ρ1 H1 f1 rs1 p1 τ1 re1 u1 => ?_⟩
    refine ⟨ρ1, S1, σ1, ds, rs1, re1, r2.mono rs f1, ?_⟩
    have p2 : Pst c (Wsh c W τ1) ρ1 H1 (fs ds σ1 S1) fun σ' S' ρ' H' => ∀ τ', RE c ρ' H' σ' τ' → UpdS (ts ++ us) τ τ' → Q τ' H' := by
      cases ef : fs ds σ1 S1 with
      | ok a b => rw [ef] at p1; exact p1
      | bad => rw [ef] at p1; exact p1
      | exc n g b => rw [ef] at p1; exact fun ρ' H' fr r d hd => hW _ _ τ τ1 _ (p1 ρ' H' fr r d hd)
    exact p2.mono fun σ2 S2 ρ2 H2 f2 rs2 p3 τ2 re2 u2 => p3 τ2 re2 (u1.trans u2)
end
end MS
end
section
set_option linter.all false
set_option maxRecDepth 100000
set_option maxHeartbeats 1000000
/-! MS10: comprehensions. -/
namespace MS
open PySem
open L2 (V Hp HO SqL SqT Rd upd upd_same upd_ne RelV Vals TE TA TT TS TI TG TGs VK XK WX Cx Inv PE PT PA PS PSs PI PG PGs OpR It Turn PIE PTs)
section
variable {α β : Type} {c : Cn} {w w' : XW} {ρ ρ' ρ1 ρ2 : List Addr} {H H' H1 H2 : Hp} {S : ML.St} {D : Addr} {vs : List V}
theorem Pst.unnox {x : ML.Out α} {k : α → ML.St → List Addr → Hp → Prop} (h : Pst c w ρ H x.nox k) : Pst c w' ρ H x k := by
  cases x with
  | ok a S => exact h
  | exc n fs S => exact h.elim
  | bad => exact h
theorem nox_ok {a : α} : (ML.Out.ok a S).nox = .ok a S := rfl
/-- a step of a run that may not raise, seen beside the new list -/
theorem Pst.step {x : ML.Out β} {g : β → ML.St → ML.Out α} {k : α → ML.St → List Addr → Hp → Prop} (p : Pst c w ρ (MS.del H D) (x.bnd g).nox k) (hD : H D = some (.lst vs)) (hn : D ∉ ρ) :
    Pst c w' ρ H x fun a S' ρ' H' => Pst c w ρ' (MS.del H' D) (g a S').nox k ∧ H' D = some (.lst vs) ∧ D ∉ ρ' := by
  rw [nox_bnd] at p
  exact Pst.unnox (w := w) (Pst.beside (w' := w) p.bnd (nox_ne x) hD hn)
theorem del_upd {o : HO} : del (upd H D o) D = del H D := by
  funext b
  by_cases e : b = D
  · subst e; rw [del_same, del_same]
  · rw [del_ne e, del_ne e, upd_ne e]
theorem Fr.undel (f : Fr ρ1 H1 ρ (MS.del H D)) : Fr ρ1 H1 ρ H := by
  obtain ⟨t, e, n⟩ := f.ext
  refine ⟨⟨t, e, n⟩, fun a o ha h => ?_⟩
  have := f.keep a o ha h
  by_cases z : a = D
  · rw [z, del_same] at this; cases this
  · rwa [del_ne z] at this
theorem RS.undel (rs : RS c ρ (MS.del H D) S) (hD : H D = some (.lst vs)) : RS c ρ H S := by
  have := rs.new (o := .lst vs) (del_same (H := H) (D := D))
  rwa [upd_del hD] at this
theorem wipe_get {σ : ML.Env} {i : Nat} {d : ML.D} : ∀ {vs : List Nat}, (ML.wipe σ vs)[i]? = some (some d) → σ[i]? = some (some d) ∧ i ∉ vs
  | [], h => ⟨h, by simp⟩
  | v :: vs, h => by
    unfold ML.wipe at h
    by_cases e : v = i
    · subst e
      rw [List.getElem?_set] at h
      simp at h
    · rw [List.getElem?_set_ne e] at h
      obtain ⟨a, b⟩ := wipe_get h
      exact ⟨a, by simp [Ne.symm e, b]⟩
theorem mwipe_length (σ : ML.Env) : ∀ vs : List Nat, (ML.wipe σ vs).length = σ.length
  | [] => rfl
  | v :: vs => by unfold ML.wipe; rw [List.length_set, mwipe_length σ vs]
theorem lwipe_out {σ : L2.St} {i : Nat} : ∀ {vs : List Nat}, i ∉ vs → (L2.wipe σ vs)[i]? = σ[i]?
  | [], _ => rfl
  | v :: vs, h => by
    simp only [List.mem_cons, not_or] at h
    unfold L2.wipe
    rw [List.getElem?_set_ne (Ne.symm h.1), lwipe_out h.2]
theorem lwipe_in {σ : L2.St} {i : Nat} : ∀ {vs : List Nat}, i ∈ vs → (L2.wipe σ vs)[i]? = if i < σ.length then some none else none
  | v :: vs, h => by
    unfold L2.wipe
    by_cases e : v = i
    · subst e
      rw [List.getElem?_set]
      simp [L2.wipe_length]
    · rw [List.getElem?_set_ne e]
      simp only [List.mem_cons] at h
      exact lwipe_in (h.resolve_left (Ne.symm e))
theorem RE.wipe {σ : ML.Env} {τ : L2.St} (re : RE c ρ H σ τ) (vs : List Nat) : RE c ρ H (ML.wipe σ vs) (L2.wipe τ vs) := by
  refine ⟨by rw [mwipe_length, L2.wipe_length]; exact re.1, fun i d e => ?_⟩
  obtain ⟨a, b⟩ := wipe_get e
  obtain ⟨v, e1, r⟩ := re.2 i d a
  exact ⟨v, by rw [lwipe_out b]; exact e1, r⟩
theorem UpdS.wipe {ts vs : List Nat} {τ τ' : L2.St} (u : UpdS ts (L2.wipe τ vs) τ') (h : ∀ i ∈ ts, i ∈ vs) : L2.wipe τ' vs = L2.wipe τ vs := by
  apply List.ext_getElem?
  intro i
  have hl : τ'.length = τ.length := by rw [u.1, L2.wipe_length]
  by_cases hi : i ∈ vs
  · rw [lwipe_in hi, lwipe_in hi, hl]
  · rw [lwipe_out hi, u.2 i (fun z => hi (h i z))]
theorem pst_compD {g : ML.Gd} {f : ML.D → ML.St → ML.Out (List ML.D)} {d : ML.D} {r : List ML.D} {k : List ML.D → ML.St → List Addr → Hp → Prop} (h : Pst c w ρ H (ML.compD g f (d :: r) S).nox k) :
    g.ok S = true ∧ Pst c w ρ H ((f d S).bnd fun a S => (ML.compD g f r S).bnd fun as S => .ok (a ++ as) S).nox k := by
  unfold ML.compD at h
  split at h
  · exact ⟨by assumption, h⟩
  · exact h.elim
theorem pst_compD0 {g : ML.Gd} {f : ML.D → ML.St → ML.Out (List ML.D)} {k : List ML.D → ML.St → List Addr → Hp → Prop} (h : Pst c w ρ H (ML.compD g f [] S).nox k) :
    g.ok S = true ∧ Pst c w ρ H (.ok [] S) k := by
  unfold ML.compD at h
  split at h
  · exact ⟨by assumption, h⟩
  · exact h.elim
end
def W0 : WX := fun _ _ _ _ => False
section
variable {X : Cx} {c : Cn} {W : WX} {elt tg iter : Expr} {ifs : List Expr} {scope : Scope} {own : List (Str × Nat)} {pos : Pos} {ts : List Nat}
  {fi : ML.Env → ML.St → ML.Out (List ML.D × ML.Gd)} {fg : ML.D → ML.Env → ML.St → ML.Out ML.Env} {fc : ML.Env → ML.St → ML.Out Bool} {fe : ML.Env → ML.St → ML.Out ML.D}
/-- the loop: what is promised of the new list, from what is promised of the run -/
theorem comp_run {vs : List Nat} {σ : ML.Env} {τ : L2.St} {Q : VK} {J : It} {H1 : Hp} {ρ1 : List Addr} {S1 : ML.St} {xs : List ML.D} {g : ML.Gd} (w : XW) (hts : ∀ i ∈ ts, i ∈ vs)
    (re : RE c ρ1 H1 σ τ) (rs : RS c ρ1 H1 S1) (rl : Rl c J xs g ρ1 H1)
    (p : Pst c w ρ1 H1 (ML.compD g (fun d S => (fg d (ML.wipe σ vs) S).bnd fun σ1 S => (fc σ1 S).bnd fun r S => if r then (fe σ1 S).bnd fun x S => .ok [x] S else .ok [] S) xs S1).nox
      fun as S' ρ' H' => ∀ a ws, H' a = none → as.length ≤ sizeLine → RDs c ρ' H' as ws → Q (.ref a) (upd H' a (.lst ws))) :
    ∀ D, H1 D = none → ∃ Wi : Nat → Nat → Hp → Prop, (∃ m, Wi 0 m (upd H1 D (.lst []))) ∧ ∀ i m H, Wi i m H →
      (J.stop i H ∧ Q (.ref D) H) ∨ (J.go i H ∧ ∃ Nx : Hp → Prop, (∀ H', Nx H' → ∃ m', m' < m ∧ Wi (i + 1) m' H') ∧ ∀ x H', J.yld i H x H' → tG c W0 ts fg x (L2.wipe τ vs) H' fun σ2 H2 => L2.wipe σ2 vs = L2.wipe τ vs ∧ tT c W0 fc σ2 H2 fun b H3 =>
        if b = true then tE c W0 fe σ2 H3 fun y H4 => ∃ acc, H4 D = some (.lst acc) ∧ acc.length < sizeLine ∧ Nx (upd H4 D (.lst (acc ++ [y]))) else Nx H3) := by
  intro D hD0
  generalize hbd : (fun (d : ML.D) (S : ML.St) => (fg d (ML.wipe σ vs) S).bnd fun σ1 S => (fc σ1 S).bnd fun r S => if r then (fe σ1 S).bnd fun x S => .ok [x] S else .ok [] S) = bd at p
  let Wi : Nat → Nat → Hp → Prop := fun i m H2 => ∃ ρ2 S2 ds ws, m = xs.length - i ∧ i ≤ xs.length ∧ ds.length ≤ i ∧ H2 D = some (.lst ws) ∧ D ∉ ρ2 ∧ RDs c ρ2 (del H2 D) ds ws ∧ Fr ρ1 H1 ρ2 (del H2 D) ∧ RS c ρ2 (del H2 D) S2 ∧
    Pst c w ρ2 (del H2 D) (ML.compD g bd (xs.drop i) S2).nox fun as S' ρ' H' => ∀ a ws, H' a = none → (ds ++ as).length ≤ sizeLine → RDs c ρ' H' (ds ++ as) ws → Q (.ref a) (upd H' a (.lst ws))
  refine ⟨Wi, ⟨xs.length, ρ1, S1, [], [], by simp, by simp, by simp, upd_same, rs.fresh hD0, by simp [RDs], ?_, ?_, ?_⟩, ?_⟩
  · rw [del_upd, del_none hD0]; exact Fr.refl
  · rw [del_upd, del_none hD0]; exact rs
  · rw [del_upd, del_none hD0]; simpa using p
  · rintro i m H2 ⟨ρ2, S2, ds, ws, hm, hi, hl, hD, hn, rds, fr, rs2, p2⟩
    have hlen : ∀ d r, xs.drop i = d :: r → i < xs.length ∧ xs[i]? = some d ∧ xs.drop (i + 1) = r := fun d r e => by
      have h1 : i < xs.length := by
        rcases Nat.lt_or_ge i xs.length with z | z
        · exact z
        · rw [List.drop_eq_nil_of_le z] at e; cases e
      rw [List.drop_eq_getElem_cons h1] at e
      injection e with e1 e2
      exact ⟨h1, by rw [List.getElem?_eq_getElem h1, e1], e2⟩
    cases hdr : xs.drop i with
    | nil =>
      rw [hdr] at p2
      obtain ⟨hg, p3⟩ := pst_compD0 p2
      have hix : xs.length ≤ i := by simpa using hdr
      obtain ⟨hz, hst, _⟩ := rl ρ2 S2 H2 fr.undel (rs2.undel hD) hg
      refine .inl ⟨hst i hix, ?_⟩
      have := p3.ok rs2 D ws del_same (by rw [List.append_nil]; omega) (by rw [List.append_nil]; exact rds)
      rwa [upd_del hD] at this
    | cons d r =>
      rw [hdr] at p2
      obtain ⟨hg, p3⟩ := pst_compD p2
      obtain ⟨h1, h2, h3⟩ := hlen d r hdr
      obtain ⟨hz, _, hgo⟩ := rl ρ2 S2 H2 fr.undel (rs2.undel hD) hg
      obtain ⟨go, yl⟩ := hgo i d h2
      refine .inr ⟨go, Wi (i + 1) (xs.length - (i + 1)), fun H' h => ⟨_, by omega, h⟩, fun x H' hy => ?_⟩
      obtain ⟨fx, rsx, rdx⟩ := yl x H' hy
      have hDx : H' D = some (.lst ws) := fx.keep D _ hn hD
      have p3 := p3.at_ fx.del
      subst hbd
      dsimp only at p3
      rw [show ∀ (a : ML.Out ML.Env) (b : ML.Env → ML.St → ML.Out (List ML.D)) (c : List ML.D → ML.St → ML.Out (List ML.D)), (a.bnd b).bnd c = a.bnd fun x S => (b x S).bnd c from fun a b c => by cases a <;> rfl] at p3
      have rex : RE c ρ2 H' (ML.wipe σ vs) (L2.wipe τ vs) := (re.mono rs (fr.undel.trans fx)).wipe vs
      refine ⟨ρ2, S2, ML.wipe σ vs, d, rsx, rex, rdx, (p3.step hDx hn).mono fun σ1 S3 ρ3 H3 f3 rs3 ⟨p4, hD3, hn3⟩ τ' re3 u3 => ?_⟩
      refine ⟨u3.wipe hts, ρ3, S3, σ1, rs3, re3, ?_⟩
      rw [show ∀ (a : ML.Out Bool) (b : Bool → ML.St → ML.Out (List ML.D)) (c : List ML.D → ML.St → ML.Out (List ML.D)), (a.bnd b).bnd c = a.bnd fun x S => (b x S).bnd c from fun a b c => by cases a <;> rfl] at p4
      refine (p4.step hD3 hn3).mono fun b S4 ρ4 H4 f4 rs4 ⟨p5, hD4, hn4⟩ => ?_
      have fr4 : Fr ρ2 H2 ρ4 H4 := fx.trans (f3.trans f4)
      cases b with
      | false =>
        show Wi _ _ H4
        have p5 : Pst c w ρ4 (del H4 D) ((ML.compD g _ r S4).bnd fun as S => .ok ([] ++ as) S).nox _ := p5
        rw [nox_bnd] at p5
        refine ⟨ρ4, S4, ds, ws, rfl, by omega, by omega, hD4, hn4, rds.mono rs2 fr4.del, fr.trans fr4.del, rs4.del hD4 hn4, ?_⟩
        rw [h3]
        exact p5.bnd.mono fun as S5 ρ5 H5 f5 rs5 q => q.ok rs5
      | true =>
        show tE c W0 fe τ' H4 _
        replace p5 : Pst c w ρ4 (del H4 D) (((fe σ1 S4).bnd fun x S => .ok [x] S).bnd fun a S => (ML.compD g _ r S).bnd fun as S => .ok (a ++ as) S).nox _ := p5
        rw [show ∀ (a : ML.Out ML.D) (b : ML.D → ML.St → ML.Out (List ML.D)) (c : List ML.D → ML.St → ML.Out (List ML.D)), (a.bnd b).bnd c = a.bnd fun x S => (b x S).bnd c from fun a b c => by cases a <;> rfl] at p5
        refine ⟨ρ4, S4, σ1, rs4, re3.mono rs3 f4, (p5.step hD4 hn4).mono fun y S5 ρ5 H5 f5 rs5 ⟨p6, hD5, hn5⟩ v rv => ?_⟩
        have fr5 : Fr ρ2 H2 ρ5 H5 := fr4.trans f5
        have p6 : Pst c w ρ5 (del H5 D) ((ML.compD g _ r S5).bnd fun as S => .ok ([y] ++ as) S).nox _ := p6
        rw [nox_bnd] at p6
        refine ⟨ws, hD5, by rw [← rds.len]; omega, ρ5, S5, ds ++ [y], ws ++ [v], rfl, by omega, by simp; omega, upd_same, hn5, ?_, ?_, ?_, ?_⟩
        · rw [del_upd]
          exact (rds.mono rs2 fr5.del).app (by simp only [RDs]; exact ⟨v, [], rfl, RD.del hD5 _ _ rv, rfl⟩)
        · rw [del_upd]; exact fr.trans fr5.del
        · rw [del_upd]; exact rs5.del hD5 hn5
        · rw [del_upd, h3]
          refine p6.bnd.mono fun as S6 ρ6 H6 f6 rs6 q => ?_
          have := q.ok rs6
          rwa [← List.append_assoc] at this
theorem n_comp (hc : X.calm = true) (hN : X.N.Nodup) (hi : PI X tg iter (tIt c W fi)) (ok : L2.BlkOk X.N X.env.scope scope own) (hts : ∀ i ∈ ts, i ∈ own.map (·.2))
    (hg : ∀ (s : Shared) (H : Hp) (C : Addr) (cl : List (Str × Addr)) (fp : List Addr), PG (X.blk s H scope (compEnvC scope cl C X.env) fp) tg (tG c W0 ts fg))
    (ht : ∀ (s : Shared) (H : Hp) (C : Addr) (cl : List (Str × Addr)) (fp : List Addr), PTs (X.blk s H scope (compEnvC scope cl C X.env) fp) ifs (tT c W0 fc))
    (he : ∀ (s : Shared) (H : Hp) (C : Addr) (cl : List (Str × Addr)) (fp : List Addr), PE (X.blk s H scope (compEnvC scope cl C X.env) fp) elt (tE c W0 fe))
    (hs : ∀ x, foldedSetIterable iter X.env x = pure x) :
    PE X (.ListComp elt [⟨tg, iter, ifs, 0⟩] scope pos) (tN c W fun σ S => (fi σ S).bnd fun p S => (ML.compD p.2 (fun d S => (fg d (ML.wipe σ (own.map (·.2))) S).bnd fun σ1 S => (fc σ1 S).bnd fun r S => if r then (fe σ1 S).bnd fun x S => .ok [x] S else .ok [] S) p.1 S).nox.bnd fun xs S => .ok ⟨true, xs, [], false⟩ S) :=
  PE.mono (L2.pe_lc hc hN hi ok hg ht he hs) fun τ H Q h => by
    obtain ⟨ρ, S, σ, rs, re, p⟩ := h
    refine ⟨ρ, S, σ, rs, re, p.bnd.mono fun q S1 ρ1 H1 f1 rs1 p1 J rl => ?_⟩
    refine comp_run (fg := fg) (fc := fc) (fe := fe) _ hts (re.mono rs f1) rs1 rl (p1.bnd.mono fun as S' ρ' H' fr rs' k a ws ha hz r => ?_)
    exact (k.ok rs').1 rfl a ws ha hz r
end
end MS
end
section
set_option linter.all false
set_option maxRecDepth 100000
set_option maxHeartbeats 1000000
/-! MS11: subscripts, slices, tests. -/
namespace MS
open PySem
open L2 (V Hp HO SqL SqT Rd upd upd_same upd_ne RelV Vals TE TA TT TS TI TG TGs VK XK WX Cx Inv PE PT PW PA PS PSs PI PG PGs OpR It Turn PIE PTs)
theorem atI_eq {α : Type} (xs : List α) (i : Int) : ML.atI xs i = L2.atI xs i := rfl
section
variable {c : Cn} {ρ : List Addr} {H : Hp}
theorem RDs.at_ {ds : List ML.D} {vs : List V} {i : Int} {d : ML.D} (r : RDs c ρ H ds vs) (h : ML.atI ds i = some d) : ∃ v, L2.atI vs i = some v ∧ RD c ρ H d v := by
  unfold ML.atI at h
  cases e : ML.ixN ds.length i with
  | none => rw [e] at h; cases h
  | some j =>
    rw [e] at h
    obtain ⟨v, e1, r1⟩ := r.get (show ds[j]? = some d from h)
    refine ⟨v, ?_, r1⟩
    unfold L2.atI
    rw [← r.len, show L2.ixN ds.length i = some j from e]
    exact e1
theorem cutAt_eq (n d : Nat) (o : Option Int) : ML.cutAt n d o = HT.sIx n d o := by
  cases o with
  | none => rfl
  | some i => rfl
theorem RDs.drop : ∀ {ds : List ML.D} {vs : List V} (n : Nat), RDs c ρ H ds vs → RDs c ρ H (ds.drop n) (vs.drop n)
  | [], vs, n, r => by simp only [RDs] at r; subst r; simp [RDs]
  | d :: ds, vs, 0, r => r
  | d :: ds, vs, n + 1, r => by
    simp only [RDs] at r
    obtain ⟨v, l, e, _, r2⟩ := r
    subst e
    exact r2.drop n
theorem RDs.take : ∀ {ds : List ML.D} {vs : List V} (n : Nat), RDs c ρ H ds vs → RDs c ρ H (ds.take n) (vs.take n)
  | [], vs, n, r => by simp only [RDs] at r; subst r; simp [RDs]
  | d :: ds, vs, 0, r => by simp [RDs]
  | d :: ds, vs, n + 1, r => by
    simp only [RDs] at r
    obtain ⟨v, l, e, r1, r2⟩ := r
    subst e
    simp only [List.take_succ_cons, RDs]
    exact ⟨v, l.take n, rfl, r1, r2.take n⟩
theorem RDs.cutV {ds : List ML.D} {vs : List V} (lo hi : Option Int) (r : RDs c ρ H ds vs) : RDs c ρ H (ML.cut ds lo hi) (L2.cutV vs lo hi) := by
  unfold ML.cut L2.cutV
  rw [← r.len, cutAt_eq, cutAt_eq]
  exact (r.drop _).take _
theorem RDs.reverse : ∀ {ds : List ML.D} {vs : List V}, RDs c ρ H ds vs → RDs c ρ H ds.reverse vs.reverse
  | [], vs, r => by simp only [RDs] at r; subst r; simp [RDs]
  | d :: ds, vs, r => by
    simp only [RDs] at r
    obtain ⟨v, l, e, r1, r2⟩ := r
    subst e
    simp only [List.reverse_cons]
    exact (r2.reverse).app (by simp only [RDs]; exact ⟨v, [], rfl, r1, rfl⟩)
theorem cut_length {α : Type} (xs : List α) (lo hi : Option Int) : (ML.cut xs lo hi).length ≤ xs.length := by
  unfold ML.cut
  rw [List.length_take, List.length_drop]
  omega
end
section
variable {X : Cx} {c : Cn} {W : WX} {a b e : Expr} {fa fb fd : ML.Env → ML.St → ML.Out ML.D} {pos : Pos}
theorem ix_M (hK : X.K = c.K) (hu : X.A.units + 1 < cLine) : L2.IxR X (rB c ML.idxD) := by
  intro value slice pins s σ H x y v u Q I rx ry h hs
  obtain ⟨ρ, S, w, d1, d2, rs, r1, r2, p⟩ := h
  cases d1 with
  | tup xs =>
    cases d2 with
    | int i =>
      obtain ⟨d, e, q⟩ := Pst.okO (o := ML.atI xs i) p
      simp only [RD] at r1 r2
      obtain ⟨_, q1, vs, e1, t1, g1⟩ := r1
      obtain ⟨z, ez, rz⟩ := g1.at_ e
      exact L2.ix_tup value slice pins s σ H x y v u Q I rx ry ⟨q1, vs, i, z, e1, r2, by rw [hK]; exact t1, ez, q.ok rs z rz⟩ hs
    | _ => exact p.elim
  | rol xs =>
    cases d2 with
    | int i =>
      obtain ⟨d, e, q⟩ := Pst.okO (o := ML.atI xs i) p
      simp only [RD] at r1 r2
      obtain ⟨_, q1, vs, e1, t1, g1⟩ := r1
      obtain ⟨z, ez, rz⟩ := g1.at_ e
      exact L2.ix_list value slice pins s σ H x y v u Q I rx ry ⟨q1, vs, i, z, e1, r2, by rw [hK]; exact t1.l, ez, q.ok rs z rz⟩ hs
    | _ => exact p.elim
  | str t =>
    cases d2 with
    | int i =>
      obtain ⟨d, e, q⟩ := Pst.okO (o := (ML.atI t i).map fun c => ML.D.str [c]) p
      cases e1 : ML.atI t i with
      | none => rw [e1] at e; cases e
      | some k =>
        rw [e1] at e
        cases e
        simp only [RD] at r1 r2
        have hk : k ∈ t := by
          unfold ML.atI at e1
          cases e2 : ML.ixN t.length i with
          | none => rw [e2] at e1; cases e1
          | some j => rw [e2] at e1; exact List.mem_of_getElem? (show t[j]? = some k from e1)
        refine L2.ix_str value slice pins s σ H x y v u Q I rx ry ⟨sg t, i, k, r1.1, r2, r1.2.line, by rw [show (sg t).cps.toList = t from by simp [sg]]; exact e1, q.ok rs _ ?_⟩ hs
        simp only [RD]
        exact ⟨rfl, fun z hz => by have : z = k := by simpa using hz
                                   subst this; exact r1.2.1 z hk, by show 1 ≤ _; decide⟩
    | _ => exact p.elim
  | loc l =>
    unfold ML.idxD at p
    dsimp only at p
    cases e1 : S[l]? with
    | none => rw [e1] at p; exact p.elim
    | some o =>
      cases o with
      | lst xs =>
        rw [e1] at p
        cases d2 with
        | int i =>
          obtain ⟨d, e, q⟩ := Pst.okO (o := ML.atI xs i) p
          obtain ⟨a, vs, e2, _, t, g, _⟩ := rs.lst e1 r1
          simp only [RD] at r2
          obtain ⟨z, ez, rz⟩ := g.at_ e
          exact L2.ix_list value slice pins s σ H x y v u Q I rx ry ⟨a, vs, i, z, e2, r2, .inl (.inl t), ez, q.ok rs z rz⟩ hs
        | _ => exact p.elim
      | dct kvs =>
        rw [e1] at p
        dsimp only at p
        by_cases hk : ML.keyOk d2 = true
        · rw [if_pos hk] at p
          obtain ⟨d, e, q⟩ := Pst.okO p
          obtain ⟨a, vs, e2, _, t, _, g⟩ := rs.dct e1 r1
          obtain ⟨K, hK'⟩ := kk_of hk
          obtain ⟨ev, _⟩ := kk_V hK' r2
          subst e2 ev
          obtain rfl : v = Value.ref a := rx
          rcases g.look hK' with ⟨h1, h2⟩ | ⟨d', z, h1, h2, rz⟩
          · rw [h1] at e; cases e
          · rw [h1] at e; cases e
            exact PyProof.Rows.tail_any (L2.dict_typeIs I (L2.DGet.k (k := K) t)) PySem.F.slot_dict_getitem.lookup (L2.d_getItem hu I (by have := L2.DGet.k (k := K) t; rwa [h2] at this) ry fun w' s' I' r' => ⟨z, H, I', r', q.ok rs z rz⟩) hs
        · rw [if_neg hk] at p; exact p.elim
      | _ => rw [e1] at p; exact p.elim
  | _ => exact p.elim
theorem e_idx (hK : X.K = c.K) (hu : X.A.units + 1 < cLine) (ha : PE X a (tE c W fa)) (hb : PE X b (tE c W fb)) (hs : L2.PlainIx b) :
    PE X (.Subscript a b pos) (tE c W fun σ S => (fa σ S).bnd fun x S => (fb σ S).bnd fun y S => ML.idxD x y S) := PE.mono (L2.pe_ix (ix_M hK hu) ha hb hs) fun τ H Q h => by
  obtain ⟨ρ, S, σ, rs, re, p⟩ := h
  refine ⟨ρ, S, σ, rs, re, p.bnd.mono fun d1 S1 ρ1 H1 f1 rs1 p1 v1 r1 => ?_⟩
  refine ⟨ρ1, S1, σ, rs1, re.mono rs f1, p1.bnd.mono fun d2 S2 ρ2 H2 f2 rs2 p2 v2 r2 => ?_⟩
  exact ⟨ρ2, S2, _, d1, d2, rs2, RD.mono rs1 f2 d1 v1 r1, r2, p2⟩
theorem e_idxL {f : ML.Env → ML.St → ML.Out ML.Li} (hK : X.K = c.K) (ha : PE X a (tL c W f)) (hb : PE X b (tE c W fb)) (hs : L2.PlainIx b) :
    PE X (.Subscript a b pos) (tE c W fun σ S => (f σ S).bnd fun p S => (fb σ S).bnd fun y S => match y with
      | .int i => if p.g.ok S then ML.okO (ML.atI p.xs i) S else .bad
      | _ => .bad) := PE.mono (L2.pe_ix (L2.ix_list.or L2.ix_tup) ha hb hs) fun τ H Q h => by
  obtain ⟨ρ, S, σ, rs, re, p⟩ := h
  refine ⟨ρ, S, σ, rs, re, p.bnd.mono fun q S1 ρ1 H1 f1 rs1 p1 a lk => ?_⟩
  refine ⟨ρ1, S1, σ, rs1, re.mono rs f1, p1.bnd.mono fun d2 S2 ρ2 H2 f2 rs2 p2 v2 r2 => ?_⟩
  cases d2 with
  | int i =>
    dsimp only at p2
    by_cases hg : q.g.ok S2 = true
    · rw [if_pos hg] at p2
      obtain ⟨d, e, p3⟩ := Pst.okO p2
      obtain ⟨vs, r, k1, k2, _⟩ := (lk.mono rs1 f2).at_ rs2 hg
      obtain ⟨z, ez, rz⟩ := r.at_ e
      simp only [RD] at r2
      cases hb : q.b with
      | true => exact .inl ⟨a, vs, i, z, rfl, r2, by rw [hK]; exact k1 hb, ez, p3.ok rs2 z rz⟩
      | false => exact .inr ⟨a, vs, i, z, rfl, r2, by rw [hK]; exact k2 hb, ez, p3.ok rs2 z rz⟩
    · rw [if_neg hg] at p2; exact p2.elim
  | _ => exact p2.elim
/-! ### tests -/
theorem e_neg (ha : PE X a (tE c W fa)) : PE X (.UnaryOp .USub a pos) (tE c W fun σ S => (fa σ S).bnd fun x S => match x with
    | .int i => .ok (.int (-i)) S
    | _ => .bad) := PE.mono (L2.pe_un L2.un_neg ha) fun τ H Q h => by
  obtain ⟨ρ, S, σ, rs, re, p⟩ := h
  refine ⟨ρ, S, σ, rs, re, p.bnd.mono fun d1 S1 ρ1 H1 f1 rs1 p1 v1 r1 => ?_⟩
  cases d1 with
  | int i =>
    simp only [RD] at r1
    exact ⟨i, r1, p1.ok rs1 _ (by simp [RD])⟩
  | _ => exact p1.elim
theorem Pst.asBool {w : XW} {ρ : List Addr} {H : Hp} {S : ML.St} {d : ML.D} {v : V} {k : Bool → ML.St → List Addr → Hp → Prop} (p : Pst c w ρ H (ML.asBool d S) k) (r : RD c ρ H d v) (rs : RS c ρ H S) : ∃ b, v = .bl b ∧ d = .bl b ∧ k b S ρ H := by
  cases d with
  | bl b =>
    simp only [RD] at r
    exact ⟨b, r, rfl, p.ok rs⟩
  | _ => exact p.elim
theorem t_val (he : ∀ whole, isTrue a X.env whole = (do let v ← whole; standAt a.pos; holding [v] (truthy v))) (ha : PE X a (tE c W fa)) : PT X a (tT c W fun σ S => (fa σ S).bnd fun x S => ML.asBool x S) := PT.mono (L2.pt_val ha he) fun τ H Q h => by
  obtain ⟨ρ, S, σ, rs, re, p⟩ := h
  refine ⟨ρ, S, σ, rs, re, p.bnd.mono fun d1 S1 ρ1 H1 f1 rs1 p1 v1 r1 => ?_⟩
  obtain ⟨b, e, _, k⟩ := p1.asBool r1 rs1
  exact ⟨b, e, k⟩
section
variable {op op' : CmpOp} {f f' : ML.D → ML.D → ML.St → ML.Out Bool}
theorem e_cmp (ho : OpR X (compareOp op) (rC c f)) (hm : behindInMarks op b = false) (ha : PE X a (tE c W fa)) (hb : PE X b (tE c W fb)) :
    PE X (.Compare a [op] [b] pos) (tE c W fun σ S => (fa σ S).bnd fun x S => (fb σ S).bnd fun y S => (f x y S).bnd fun r S => .ok (.bl r) S) := PE.mono (L2.pe_cmpR ho ha hb hm) fun τ H Q h => by
  obtain ⟨ρ, S, σ, rs, re, p⟩ := h
  refine ⟨ρ, S, σ, rs, re, p.bnd.mono fun d1 S1 ρ1 H1 f1 rs1 p1 v1 r1 => ?_⟩
  refine ⟨ρ1, S1, σ, rs1, re.mono rs f1, p1.bnd.mono fun d2 S2 ρ2 H2 f2 rs2 p2 v2 r2 => ?_⟩
  exact ⟨ρ2, S2, _, d1, d2, rs2, RD.mono rs1 f2 d1 v1 r1, r2, p2.bnd.mono fun r S3 ρ3 H3 f3 rs3 p3 => p3.ok rs3 _ (by simp [RD])⟩
theorem t_cmp (ho : OpR X (compareOp op) (rC c f)) (hm : behindInMarks op b = false) (ha : PE X a (tE c W fa)) (hb : PE X b (tE c W fb)) :
    PT X (.Compare a [op] [b] pos) (tT c W fun σ S => ((fa σ S).bnd fun x S => (fb σ S).bnd fun y S => (f x y S).bnd fun r S => .ok (.bl r) S).bnd fun x S => ML.asBool x S) := PT.mono (L2.pt_cmpR ho ha hb hm) fun τ H Q h => by
  obtain ⟨ρ, S, σ, rs, re, p⟩ := h
  refine ⟨ρ, S, σ, rs, re, p.bnd.bnd.mono fun d1 S1 ρ1 H1 f1 rs1 p1 v1 r1 => ?_⟩
  refine ⟨ρ1, S1, σ, rs1, re.mono rs f1, p1.bnd.mono fun d2 S2 ρ2 H2 f2 rs2 p2 v2 r2 => ?_⟩
  exact ⟨ρ2, S2, _, d1, d2, rs2, RD.mono rs1 f2 d1 v1 r1, r2, p2.bnd.mono fun r S3 ρ3 H3 f3 rs3 p3 => ⟨r, rfl, (p3.ok rs3).ok rs3⟩⟩
theorem e_chain {e : Expr} {fe : ML.Env → ML.St → ML.Out ML.D} (ho : OpR X (compareOp op) (rC c f)) (ho' : OpR X (compareOp op') (rC c f')) (hm : lastMarks [op, op'] [b, e] = false) (ha : PE X a (tE c W fa)) (hb : PE X b (tE c W fb)) (he : PE X e (tE c W fe)) :
    PE X (.Compare a [op, op'] [b, e] pos) (tE c W fun σ S => (fa σ S).bnd fun x S => (fb σ S).bnd fun y S => (f x y S).bnd fun r S => if r then (fe σ S).bnd fun z S => (f' y z S).bnd fun r S => .ok (.bl r) S else .ok (.bl false) S) := PE.mono (L2.pe_chain ho ho' ha hb he hm) fun τ H Q h => by
  obtain ⟨ρ, S, σ, rs, re, p⟩ := h
  refine ⟨ρ, S, σ, rs, re, p.bnd.mono fun d1 S1 ρ1 H1 f1 rs1 p1 v1 r1 => ?_⟩
  refine ⟨ρ1, S1, σ, rs1, re.mono rs f1, p1.bnd.mono fun d2 S2 ρ2 H2 f2 rs2 p2 v2 r2 => ?_⟩
  refine ⟨ρ2, S2, _, d1, d2, rs2, RD.mono rs1 f2 d1 v1 r1, r2, p2.bnd.mono fun r S3 ρ3 H3 f3 rs3 p3 => ⟨r, rfl, ?_⟩⟩
  cases r with
  | true =>
    refine ⟨ρ3, S3, σ, rs3, re.mono rs (f1.trans (f2.trans f3)), (Pst.bnd p3).mono fun d4 S4 ρ4 H4 f4 rs4 p4 v4 r4 => ?_⟩
    exact ⟨ρ4, S4, _, d2, d4, rs4, RD.mono rs2 (f3.trans f4) d2 v2 r2, r4, p4.bnd.mono fun r S5 ρ5 H5 f5 rs5 p5 => p5.ok rs5 _ (by simp [RD])⟩
  | false => exact Pst.ok p3 rs3 _ (by simp [RD])
theorem t_chain {e : Expr} {fe : ML.Env → ML.St → ML.Out ML.D} (ho : OpR X (compareOp op) (rC c f)) (ho' : OpR X (compareOp op') (rC c f')) (hm : lastMarks [op, op'] [b, e] = false) (ha : PE X a (tE c W fa)) (hb : PE X b (tE c W fb)) (he : PE X e (tE c W fe)) :
    PT X (.Compare a [op, op'] [b, e] pos) (tT c W fun σ S => ((fa σ S).bnd fun x S => (fb σ S).bnd fun y S => (f x y S).bnd fun r S => if r then (fe σ S).bnd fun z S => (f' y z S).bnd fun r S => .ok (.bl r) S else .ok (.bl false) S).bnd fun x S => ML.asBool x S) := PT.mono (L2.pt_chain ho ho' ha hb he hm) fun τ H Q h => by
  obtain ⟨ρ, S, σ, rs, re, p⟩ := h
  refine ⟨ρ, S, σ, rs, re, p.bnd.bnd.mono fun d1 S1 ρ1 H1 f1 rs1 p1 v1 r1 => ?_⟩
  refine ⟨ρ1, S1, σ, rs1, re.mono rs f1, p1.bnd.mono fun d2 S2 ρ2 H2 f2 rs2 p2 v2 r2 => ?_⟩
  refine ⟨ρ2, S2, _, d1, d2, rs2, RD.mono rs1 f2 d1 v1 r1, r2, p2.bnd.mono fun r S3 ρ3 H3 f3 rs3 p3 => ⟨r, rfl, ?_⟩⟩
  cases r with
  | true =>
    refine ⟨ρ3, S3, σ, rs3, re.mono rs (f1.trans (f2.trans f3)), (Pst.bnd p3).mono fun d4 S4 ρ4 H4 f4 rs4 p4 v4 r4 => ?_⟩
    exact ⟨ρ4, S4, _, d2, d4, rs4, RD.mono rs2 (f3.trans f4) d2 v2 r2, r4, p4.bnd.mono fun r S5 ρ5 H5 f5 rs5 p5 => ⟨r, rfl, (p5.ok rs5).ok rs5⟩⟩
  | false => exact ⟨false, rfl, (Pst.ok p3 rs3).ok rs3⟩
end
/-- is None -/
theorem e_isn {neg : Bool} {op : CmpOp} (ho : OpR X (compareOp op) (fun x y H Q => y = .non ∧ Q (.bl (if neg then !decide (x = .non) else decide (x = .non))) H)) (hm : behindInMarks op b = false) (ha : PE X a (tE c W fa)) (hb : PE X b (L2.tC .non)) :
    PE X (.Compare a [op] [b] pos) (tE c W fun σ S => (fa σ S).bnd fun x S => .ok (.bl (if neg then !decide (x = .non) else decide (x = .non))) S) := PE.mono (L2.pe_cmpR ho ha hb hm) fun τ H Q h => by
  obtain ⟨ρ, S, σ, rs, re, p⟩ := h
  refine ⟨ρ, S, σ, rs, re, p.bnd.mono fun d1 S1 ρ1 H1 f1 rs1 p1 v1 r1 => ⟨rfl, ?_⟩⟩
  have hd : decide (v1 = V.non) = decide (d1 = ML.D.non) := by
    cases d1 with
    | non => simp only [RD] at r1; rw [r1]; rfl
    | bl _ => simp only [RD] at r1; rw [r1]; rfl
    | int _ => simp only [RD] at r1; rw [r1]; rfl
    | str _ => simp only [RD] at r1; rw [r1.1]; rfl
    | tup _ => simp only [RD] at r1; obtain ⟨_, q, _, e, _⟩ := r1; rw [e]; rfl
    | rol _ => simp only [RD] at r1; obtain ⟨_, q, _, e, _⟩ := r1; rw [e]; rfl
    | loc _ => simp only [RD] at r1; obtain ⟨q, e, _⟩ := r1; rw [e]; rfl
  rw [hd]
  exact p1.ok rs1 _ (by simp [RD])
theorem t_isn {neg : Bool} {op : CmpOp} (ho : OpR X (compareOp op) (fun x y H Q => y = .non ∧ Q (.bl (if neg then !decide (x = .non) else decide (x = .non))) H)) (hm : behindInMarks op b = false) (ha : PE X a (tE c W fa)) (hb : PE X b (L2.tC .non)) :
    PT X (.Compare a [op] [b] pos) (tT c W fun σ S => ((fa σ S).bnd fun x S => .ok (.bl (if neg then !decide (x = .non) else decide (x = .non))) S).bnd fun x S => ML.asBool x S) := PT.mono (L2.pt_cmpR ho ha hb hm) fun τ H Q h => by
  obtain ⟨ρ, S, σ, rs, re, p⟩ := h
  refine ⟨ρ, S, σ, rs, re, p.bnd.bnd.mono fun d1 S1 ρ1 H1 f1 rs1 p1 v1 r1 => ⟨rfl, _, rfl, ?_⟩⟩
  have hd : decide (v1 = V.non) = decide (d1 = ML.D.non) := by
    cases d1 with
    | non => simp only [RD] at r1; rw [r1]; rfl
    | bl _ => simp only [RD] at r1; rw [r1]; rfl
    | int _ => simp only [RD] at r1; rw [r1]; rfl
    | str _ => simp only [RD] at r1; rw [r1.1]; rfl
    | tup _ => simp only [RD] at r1; obtain ⟨_, q, _, e, _⟩ := r1; rw [e]; rfl
    | rol _ => simp only [RD] at r1; obtain ⟨_, q, _, e, _⟩ := r1; rw [e]; rfl
    | loc _ => simp only [RD] at r1; obtain ⟨q, e, _⟩ := r1; rw [e]; rfl
  rw [hd]
  exact (p1.ok rs1).ok rs1
/-! ### and, or, not, if -/
theorem bnd_ok {α : Type} {x : ML.Out α} : x.bnd (fun a S => .ok a S) = x := by cases x <;> rfl
theorem bnd_bnd {α β γ : Type} (x : ML.Out α) (f : α → ML.St → ML.Out β) (g : β → ML.St → ML.Out γ) : (x.bnd f).bnd g = x.bnd fun a S => (f a S).bnd g := by cases x <;> rfl
abbrev tst (f : ML.Env → ML.St → ML.Out ML.D) : ML.Env → ML.St → ML.Out Bool := fun σ S => (f σ S).bnd fun x S => ML.asBool x S
theorem w_and1 (ha : PT X a (tT c W (tst fa))) : PW X (.BoolOp .And [a] pos) (tT c W (tst fa)) := L2.pw_and1 ha
theorem w_or1 (ha : PT X a (tT c W (tst fa))) : PW X (.BoolOp .Or [a] pos) (tT c W (tst fa)) := L2.pw_or1 ha
theorem PW.mono {e : Expr} {t t' : TT} (h : PW X e t) (f : ∀ τ H Q, t' τ H Q → t τ H Q) : PW X e t' := ⟨fun wh pins s σ H Q I q => h.run wh pins s σ H Q I (f σ H Q q)⟩
theorem w_and {rest : List Expr} (ha : PT X a (tT c W (tst fa))) (hb : PW X (.BoolOp .And (b :: rest) pos) (tT c W (tst fb))) :
    PW X (.BoolOp .And (a :: b :: rest) pos) (tT c W (tst fun σ S => (fa σ S).bnd fun x S => (ML.asBool x S).bnd fun r S => if r then fb σ S else .ok (.bl false) S)) := PW.mono (L2.pw_and ha hb) fun τ H Q h => by
  obtain ⟨ρ, S, σ, rs, re, p⟩ := h
  refine ⟨ρ, S, σ, rs, re, ?_⟩
  unfold tst at p ⊢
  dsimp only at p ⊢
  rw [bnd_bnd] at p
  simp only [bnd_bnd] at p
  rw [← bnd_bnd] at p
  refine p.bnd.mono fun r S1 ρ1 H1 f1 rs1 p1 => ?_
  cases r with
  | true => exact ⟨ρ1, S1, σ, rs1, re.mono rs f1, p1⟩
  | false => exact Pst.ok p1 rs1
theorem w_or {rest : List Expr} (ha : PT X a (tT c W (tst fa))) (hb : PW X (.BoolOp .Or (b :: rest) pos) (tT c W (tst fb))) :
    PW X (.BoolOp .Or (a :: b :: rest) pos) (tT c W (tst fun σ S => (fa σ S).bnd fun x S => (ML.asBool x S).bnd fun r S => if r then .ok (.bl true) S else fb σ S)) := PW.mono (L2.pw_or ha hb) fun τ H Q h => by
  obtain ⟨ρ, S, σ, rs, re, p⟩ := h
  refine ⟨ρ, S, σ, rs, re, ?_⟩
  unfold tst at p ⊢
  dsimp only at p ⊢
  rw [bnd_bnd] at p
  simp only [bnd_bnd] at p
  rw [← bnd_bnd] at p
  refine p.bnd.mono fun r S1 ρ1 H1 f1 rs1 p1 => ?_
  cases r with
  | false => exact ⟨ρ1, S1, σ, rs1, re.mono rs f1, p1⟩
  | true => exact Pst.ok p1 rs1
theorem t_not (ha : PT X a (tT c W (tst fa))) : PT X (.UnaryOp .Not a pos) (tT c W (tst fun σ S => (fa σ S).bnd fun x S => (ML.asBool x S).bnd fun r S => .ok (.bl (!r)) S)) := PT.mono (L2.pt_not ha) fun τ H Q h => by
  obtain ⟨ρ, S, σ, rs, re, p⟩ := h
  refine ⟨ρ, S, σ, rs, re, ?_⟩
  unfold tst at p ⊢
  dsimp only at p ⊢
  rw [bnd_bnd] at p
  simp only [bnd_bnd] at p
  rw [← bnd_bnd] at p
  exact p.bnd.mono fun r S1 ρ1 H1 f1 rs1 p1 => Pst.ok p1 rs1
theorem e_one {op : BoolOp} (ha : PE X a (tE c W fa)) : PE X (.BoolOp op [a] pos) (tE c W fa) := L2.pe_one ha
theorem e_and {rest : List Expr} (ha : PE X a (tE c W fa)) (hb : PE X (.BoolOp .And (b :: rest) pos) (tE c W fb)) :
    PE X (.BoolOp .And (a :: b :: rest) pos) (tE c W fun σ S => (fa σ S).bnd fun x S => (ML.asBool x S).bnd fun r S => if r then fb σ S else .ok (.bl false) S) := PE.mono (L2.pe_and ha hb) fun τ H Q h => by
  obtain ⟨ρ, S, σ, rs, re, p⟩ := h
  refine ⟨ρ, S, σ, rs, re, p.bnd.mono fun d1 S1 ρ1 H1 f1 rs1 p1 v1 r1 => ?_⟩
  obtain ⟨r, e, _, k⟩ := p1.bnd.asBool r1 rs1
  refine ⟨r, e, ?_⟩
  cases r with
  | true => exact ⟨ρ1, S1, σ, rs1, re.mono rs f1, k⟩
  | false => exact Pst.ok k rs1 _ (by simp [RD])
theorem e_or {rest : List Expr} (ha : PE X a (tE c W fa)) (hb : PE X (.BoolOp .Or (b :: rest) pos) (tE c W fb)) :
    PE X (.BoolOp .Or (a :: b :: rest) pos) (tE c W fun σ S => (fa σ S).bnd fun x S => (ML.asBool x S).bnd fun r S => if r then .ok (.bl true) S else fb σ S) := PE.mono (L2.pe_or ha hb) fun τ H Q h => by
  obtain ⟨ρ, S, σ, rs, re, p⟩ := h
  refine ⟨ρ, S, σ, rs, re, p.bnd.mono fun d1 S1 ρ1 H1 f1 rs1 p1 v1 r1 => ?_⟩
  obtain ⟨r, e, _, k⟩ := p1.bnd.asBool r1 rs1
  refine ⟨r, e, ?_⟩
  cases r with
  | false => exact ⟨ρ1, S1, σ, rs1, re.mono rs f1, k⟩
  | true => exact Pst.ok k rs1 _ (by simp [RD])
theorem e_not (ha : PE X a (tE c W fa)) : PE X (.UnaryOp .Not a pos) (tE c W fun σ S => (fa σ S).bnd fun x S => (ML.asBool x S).bnd fun r S => .ok (.bl (!r)) S) := PE.mono (L2.pe_not ha) fun τ H Q h => by
  obtain ⟨ρ, S, σ, rs, re, p⟩ := h
  refine ⟨ρ, S, σ, rs, re, p.bnd.mono fun d1 S1 ρ1 H1 f1 rs1 p1 v1 r1 => ?_⟩
  obtain ⟨r, e, _, k⟩ := p1.bnd.asBool r1 rs1
  exact ⟨r, e, Pst.ok k rs1 _ (by simp [RD])⟩
theorem Pst.test {α : Type} {w : XW} {ρ : List Addr} {H : Hp} {x : ML.Out ML.D} {g : Bool → ML.St → ML.Out α} {k : α → ML.St → List Addr → Hp → Prop} (p : Pst c w ρ H (x.bnd fun d S => (ML.asBool d S).bnd g) k) :
    Pst c w ρ H (x.bnd fun d S => ML.asBool d S) fun b S' ρ' H' => Pst c w ρ' H' (g b S') k := by
  have e := bnd_bnd x (fun d S => ML.asBool d S) g
  rw [← e] at p
  exact p.bnd
theorem e_ife {t : Expr} {ft : ML.Env → ML.St → ML.Out ML.D} (ht : PT X t (tT c W (tst ft))) (ha : PE X a (tE c W fa)) (hb : PE X b (tE c W fb)) :
    PE X (.IfExp t a b pos) (tE c W fun σ S => (ft σ S).bnd fun x S => (ML.asBool x S).bnd fun r S => if r then fa σ S else fb σ S) := PE.mono (L2.pe_ifExp ht ha hb) fun τ H Q h => by
  obtain ⟨ρ, S, σ, rs, re, p⟩ := h
  refine ⟨ρ, S, σ, rs, re, ?_⟩
  unfold tst
  refine (Pst.test p).mono fun r S1 ρ1 H1 f1 rs1 p1 => ?_
  cases r with
  | false => exact ⟨ρ1, S1, σ, rs1, re.mono rs f1, p1⟩
  | true => exact ⟨ρ1, S1, σ, rs1, re.mono rs f1, p1⟩
end
end MS
end
section
set_option linter.all false
set_option maxRecDepth 100000
set_option maxHeartbeats 1000000
/-! MS12: slices. -/
namespace HT
open PySem PySem.Spec PyProof.Rows L2
section
variable {prog : Program} {w : World} {A : Around} {E : Value → Shared → Prop} {s : Shared}
theorem getItem_tuple_whole {t sl : Addr} {items : Array Value} {vl vu : Value} {lo hi : Option Int} {Q : Value → Shared → Prop} (ht : IsTup s.heap t items) (hs : s.heap.IsSliceOf sl vl vu .none) (pl : IsPart vl lo) (pu : IsPart vu hi)
    (hw : sIx items.size 0 lo = 0 ∧ sIx items.size items.size hi = items.size)
    (h : Q (.ref t) s) : wpAny (model prog w) A (getItem (.ref t) (.ref sl)) Q E s := by
  obtain ⟨os, hos, hcs, hds⟩ := id hs
  have hTs : s.TypeIs (.ref sl) "slice" := ⟨os, hos, hcs⟩
  unfold getItem
  try with_reducible refine wpAny_holding ?_
  first | refine wpAny_bind (wpAny_pure ?_) | skip
  refine wpAny_bind (wpAny_sequenceKey ht.typeIs (by decide) ?_)
  refine wpAny_bind (wpAny_callSpecial?_slot (name := Str.ofString "__getitem__") ht.typeIs PyProof.Rows.slot_tuple_getitem
    (wpAny_call_entry PyProof.Rows.slot_tuple_getitem ht.typeIs entry_tuple_getitem ?_ (args_tuple_getitem _ _)))
  show wpAny _ _ (Builtin.Tuple.tupleItemsOf (.ref t) >>= _) _ _ s
  refine wpAny_bind (tupleItemsOf_ ht ?_)
  refine wpAny_bind (wpAny_typeOf hTs ?_)
  rw [if_pos (by decide)]
  refine wpAny_bind (sliceApplied_gen hs pl pu ?_)
  have hno : ((((sIx items.size 0 lo : Nat) : Int) == 0 && (1 : Int) == 1 && (sIx items.size items.size hi - sIx items.size 0 lo) == items.size) = true) := by
    rw [hw.1, hw.2]
    simp
  show wpAny _ _ (if (((sIx items.size 0 lo : Nat) : Int) == 0 && (1 : Int) == 1 && (sIx items.size items.size hi - sIx items.size 0 lo) == items.size) = true then _ else _) _ _ s
  rw [if_pos hno]
  refine wpAny_bind (m := Builtin.Tuple.tupleIsExact (.ref t)) ?_
  unfold Builtin.Tuple.tupleIsExact
  refine wpAny_bind (wpAny_typeOf ht.typeIs (wpAny_pure ?_))
  rw [if_pos (by decide)]
  exact wpAny_bind (wpAny_rule (wpAny_pure ⟨_, rfl, wpAny_pure h⟩))
end
end HT
namespace MS
open PySem
open L2 (V Hp HO SqL SqT Rd upd upd_same upd_ne RelV Vals TE TA TT TS TI TG TGs VK XK WX Cx Inv PE PT PW PA PS PSs PI PG PGs OpR It Turn PIE PTs SlR)
section
variable {X : Cx} {c : Cn} {W : WX} {a b e : Expr} {fa fb fd : ML.Env → ML.St → ML.Out ML.D} {pos p2 : Pos} {lo hi : Option Expr} {fl fh : ML.Env → ML.St → ML.Out (Option Int)} {f g : ML.Env → ML.St → ML.Out ML.Li}
theorem sl_tupW : SlR X (fun x lo hi H Q => ∃ a xs, x = .ref a ∧ SqT X.K H a xs ∧ (HT.sIx xs.length 0 lo = 0 ∧ HT.sIx xs.length xs.length hi = xs.length) ∧ Q (.ref a) H) := by
  intro pins s σ H x v vl vu lo hi sl Q I rx hs pl pu h
  obtain ⟨a, xs, rfl, hx, hw, q⟩ := h
  cases rx
  obtain ⟨its, r, ht, hz⟩ := I.tuple hx
  have hlen : its.toArray.size = xs.length := by rw [List.size_toArray]; exact r.length.symm
  refine ⟨"tuple", _, PyProof.Rows.slot_tuple_getitem.lookup, ht.typeIs, ?_⟩
  exact HT.getItem_tuple_whole ht hs pl pu (by rw [hlen]; exact hw) ⟨.ref a, H, I, rfl, q⟩
/-- a tuple's slice -/
def rSlTM (K : PySem.W.Frag) : V → Option Int → Option Int → Hp → VK → Prop := fun x lo hi H Q => ∃ a xs, x = .ref a ∧ SqT K H a xs ∧
  ((HT.sIx xs.length 0 lo = 0 ∧ HT.sIx xs.length xs.length hi = xs.length) → Q (.ref a) H) ∧ (¬ (HT.sIx xs.length 0 lo = 0 ∧ HT.sIx xs.length xs.length hi = xs.length) → ∀ p, H p = none → Q (.ref p) (upd H p (.tup (L2.cutV xs lo hi))))
theorem sl_tupM : SlR X (rSlTM X.K) := by
  intro pins s σ H x v vl vu lo hi sl Q I rx hs pl pu h
  obtain ⟨a, xs, e, t, h1, h2⟩ := h
  by_cases hw : HT.sIx xs.length 0 lo = 0 ∧ HT.sIx xs.length xs.length hi = xs.length
  · exact sl_tupW pins s σ H x v vl vu lo hi sl Q I rx hs pl pu ⟨a, xs, e, t, hw, h1 hw⟩
  · exact L2.sl_tup pins s σ H x v vl vu lo hi sl Q I rx hs pl pu ⟨a, xs, e, t, hw, h2 hw⟩
def rSl (c : Cn) : V → Option Int → Option Int → Hp → VK → Prop := fun x lo hi H Q => ∃ ρ S w d, RS c ρ H S ∧ RD c ρ H d x ∧ Pst c w ρ H (ML.slD d lo hi S) fun d S' ρ' H' => ∀ v, RD c ρ' H' d v → Q v H'
theorem cut_whole {α : Type} {xs : List α} {lo hi : Option Int} (h : HT.sIx xs.length 0 lo = 0 ∧ HT.sIx xs.length xs.length hi = xs.length) : ML.cut xs lo hi = xs := by
  unfold ML.cut
  rw [cutAt_eq, cutAt_eq, h.1, h.2]
  simp
theorem sl_M (hK : X.K = c.K) : SlR X (rSl c) := by
  intro pins s σ H x v vl vu lo hi sl Q I rx hs pl pu h
  obtain ⟨ρ, S, w, d, rs, r, p⟩ := h
  cases d with
  | tup xs =>
    simp only [RD] at r
    obtain ⟨z, a, vs, e, t, g⟩ := r
    refine sl_tupM pins s σ H x v vl vu lo hi sl Q I rx hs pl pu ⟨a, vs, e, by rw [hK]; exact t, fun hw => ?_, fun hw q hq => ?_⟩
    · rw [← g.len] at hw
      refine p.ok rs (.ref a) ?_
      rw [cut_whole hw]
      simp only [RD]
      exact ⟨z, a, vs, rfl, t, g⟩
    · exact p.tup rs (g.cutV lo hi) (Nat.le_trans (cut_length _ _ _) z) q hq
  | str t =>
    simp only [RD] at r
    refine L2.sl_str pins s σ H x v vl vu lo hi sl Q I rx hs pl pu ⟨sg t, r.1, r.2.line, ?_⟩
    refine p.ok rs _ ?_
    simp only [RD]
    refine ⟨?_, fun k hk => r.2.1 k ?_, Nat.le_trans (cut_length _ _ _) r.2.2⟩
    · have : L2.cutS (sg t) lo hi = sg (ML.cut t lo hi) := by
        unfold L2.cutS ML.cut
        rw [cutAt_eq, cutAt_eq, show (sg t).cps.toList = t from by simp [sg], sg_len]
        rfl
      rw [this]
    · unfold ML.cut at hk
      exact List.mem_of_mem_drop (List.mem_of_mem_take hk)
  | rol xs =>
    simp only [RD] at r
    obtain ⟨z, a, vs, e, t, g⟩ := r
    refine L2.sl_list pins s σ H x v vl vu lo hi sl Q I rx hs pl pu ⟨a, vs, e, by rw [hK]; exact t.l, (Pst.lst p rs (g.cutV lo hi)).2⟩
  | loc l =>
    unfold ML.slD at p
    dsimp only at p
    cases el : ML.lstAt S l with
    | none => rw [el] at p; exact p.elim
    | some xs =>
      rw [el] at p
      obtain ⟨a, vs, e, _, t, g, _⟩ := rs.lst (lstAt_of el) r
      exact L2.sl_list pins s σ H x v vl vu lo hi sl Q I rx hs pl pu ⟨a, vs, e, .inl (.inl t), (Pst.lst p rs (g.cutV lo hi)).2⟩
  | _ => exact p.elim
/-! ### the parts of a slice -/
def tO (c : Cn) (W : WX) (f : ML.Env → ML.St → ML.Out (Option Int)) : L2.TO := fun τ H Q => ∃ ρ S σ, RS c ρ H S ∧ RE c ρ H σ τ ∧ Pst c (Wsh c W τ) ρ H (f σ S) fun d S' ρ' H' => Q d H'
theorem PO.mono {e : Option Expr} {t t' : L2.TO} (h : L2.PO X e t) (f : ∀ τ H Q, t' τ H Q → t τ H Q) : L2.PO X e t' := ⟨fun pins s σ H Q I q => h.run pins s σ H Q I (f σ H Q q)⟩
theorem o_none : L2.PO X none (tO c W fun _ S => .ok none S) := PO.mono L2.po_none fun τ H Q h => by
  obtain ⟨ρ, S, σ, rs, re, p⟩ := h
  exact p.ok rs
theorem o_some (ha : PE X a (tE c W fa)) : L2.PO X (some a) (tO c W fun σ S => (fa σ S).bnd fun x S => match x with
    | .int i => .ok (some i) S
    | _ => .bad) := PO.mono (L2.po_some ha) fun τ H Q h => by
  obtain ⟨ρ, S, σ, rs, re, p⟩ := h
  refine ⟨ρ, S, σ, rs, re, p.bnd.mono fun d1 S1 ρ1 H1 f1 rs1 p1 v1 r1 => ?_⟩
  cases d1 with
  | int i =>
    simp only [RD] at r1
    exact ⟨i, r1, p1.ok rs1⟩
  | _ => exact p1.elim
theorem e_sl (hK : X.K = c.K) (ha : PE X a (tE c W fa)) (hl : L2.PO X lo (tO c W fl)) (hh : L2.PO X hi (tO c W fh)) :
    PE X (.Subscript a (.Slice lo hi none p2) pos) (tE c W fun σ S => (fa σ S).bnd fun x S => (fl σ S).bnd fun l S => (fh σ S).bnd fun h S => ML.slD x l h S) := PE.mono (L2.pe_slice (sl_M hK) ha hl hh) fun τ H Q h => by
  obtain ⟨ρ, S, σ, rs, re, p⟩ := h
  refine ⟨ρ, S, σ, rs, re, p.bnd.mono fun d1 S1 ρ1 H1 f1 rs1 p1 v1 r1 => ?_⟩
  refine ⟨ρ1, S1, σ, rs1, re.mono rs f1, p1.bnd.mono fun l S2 ρ2 H2 f2 rs2 p2 => ?_⟩
  refine ⟨ρ2, S2, σ, rs2, re.mono rs (f1.trans f2), p2.bnd.mono fun u S3 ρ3 H3 f3 rs3 p3 => ?_⟩
  exact ⟨ρ3, S3, _, d1, rs3, RD.mono rs1 (f2.trans f3) d1 v1 r1, p3⟩
/-! ### lists read at once: slices, turned about, put together -/
def rSlLi (c : Cn) : V → Option Int → Option Int → Hp → VK → Prop := fun x lo hi H Q => ∃ (q : ML.Li) (a : Addr) (vs : List V) (ρ : List Addr), x = .ref a ∧ RDs c ρ H q.xs vs ∧ (q.b = true → SqL c.K H a vs) ∧ (q.b = false → SqT c.K H a vs) ∧ q.xs.length ≤ sizeLine ∧
  (q.b = true → ∀ p, H p = none → Q (.ref p) (upd H p (.lst (L2.cutV vs lo hi)))) ∧ (q.b = false → (ML.cut q.xs lo hi = q.xs → Q (.ref a) H) ∧ ∀ p, H p = none → Q (.ref p) (upd H p (.tup (L2.cutV vs lo hi))))
theorem sl_Li (hK : X.K = c.K) : SlR X (rSlLi c) := by
  intro pins s σ H x v vl vu lo hi sl Q I rx hs pl pu h
  obtain ⟨q, a, vs, ρ, e, r, k1, k2, z, h1, h2⟩ := h
  cases hb : q.b with
  | true => exact L2.sl_list pins s σ H x v vl vu lo hi sl Q I rx hs pl pu ⟨a, vs, e, by rw [hK]; exact k1 hb, h1 hb⟩
  | false =>
    refine sl_tupM pins s σ H x v vl vu lo hi sl Q I rx hs pl pu ⟨a, vs, e, by rw [hK]; exact k2 hb, fun hw => (h2 hb).1 (cut_whole (by rw [r.len]; exact hw)), fun _ => (h2 hb).2⟩
theorem n_sl (hK : X.K = c.K) (ha : PE X a (tL c W f)) (hl : L2.PO X lo (tO c W fl)) (hh : L2.PO X hi (tO c W fh)) :
    PE X (.Subscript a (.Slice lo hi none p2) pos) (tN c W fun σ S => (f σ S).bnd fun q S => (fl σ S).bnd fun l S => (fh σ S).bnd fun h S => if q.g.ok S then .ok ⟨q.b, ML.cut q.xs l h, [], false⟩ S else .bad) := PE.mono (L2.pe_slice (sl_Li hK) ha hl hh) fun τ H Q h => by
  obtain ⟨ρ, S, σ, rs, re, p⟩ := h
  refine ⟨ρ, S, σ, rs, re, p.bnd.mono fun q S1 ρ1 H1 f1 rs1 p1 a lk => ?_⟩
  refine ⟨ρ1, S1, σ, rs1, re.mono rs f1, p1.bnd.mono fun l S2 ρ2 H2 f2 rs2 p2 => ?_⟩
  refine ⟨ρ2, S2, σ, rs2, re.mono rs (f1.trans f2), p2.bnd.mono fun u S3 ρ3 H3 f3 rs3 p3 => ?_⟩
  by_cases hg : q.g.ok S3 = true
  · rw [if_pos hg] at p3
    obtain ⟨vs, r, k1, k2, _, z⟩ := (lk.mono rs1 (f2.trans f3)).at_ rs3 hg
    refine ⟨q, a, vs, ρ3, rfl, r, k1, k2, z, fun hb t ht => ?_, fun hb => ⟨fun hc => ?_, fun t ht => ?_⟩⟩
    · exact (p3.ok rs3).1 hb t _ ht (Nat.le_trans (cut_length _ _ _) z) (r.cutV l u)
    · refine (p3.ok rs3).2 hb a ?_
      unfold Lk
      dsimp only
      rw [hb]
      exact ⟨rfl, Nat.le_trans (cut_length _ _ _) z, vs, k2 hb, by rw [hc]; exact r⟩
    · have p4 := p3 ρ3 (upd H3 t (.tup (L2.cutV vs l u))) (Fr.new ht) (rs3.new ht)
      refine p4.2 hb t ?_
      unfold Lk
      dsimp only
      rw [hb]
      exact ⟨rfl, Nat.le_trans (cut_length _ _ _) z, _, .inl (.inl upd_same), (r.cutV l u).mono rs3 (Fr.new ht)⟩
  · rw [if_neg hg] at p3; exact p3.elim
theorem n_rev {k : Nat} {p1 p2 p3 : Pos} (hK : X.K = c.K) (ha : PE X a (tL c W f)) (hg : ∀ σ S q S', f σ S = .ok q S' → q.g.ok S' = true) :
    PE X (.Subscript a (.Slice none none (some (.UnaryOp .USub (.Constant (.int 1) k p1) p2)) p3) pos) (tN c W fun σ S => (f σ S).bnd fun q S => if q.b then .ok ⟨true, q.xs.reverse, [], false⟩ S else .bad) := PE.mono (L2.pe_revL ha) fun τ H Q h => by
  obtain ⟨ρ, S, σ, rs, re, p⟩ := h
  refine ⟨ρ, S, σ, rs, re, p.bnd.monoE fun q S1 ρ1 H1 ee f1 rs1 p1 a lk => ?_⟩
  obtain ⟨vs, r, k1, _, _, z⟩ := lk.at_ rs1 (hg _ _ _ _ ee)
  cases hb : q.b with
  | false => rw [hb] at p1; exact p1.elim
  | true =>
    rw [hb] at p1
    exact ⟨a, vs, rfl, by rw [hK]; exact k1 hb, fun t ht => (Pst.ok p1 rs1).1 rfl t _ ht (by rw [List.length_reverse]; exact z) r.reverse⟩
theorem e_rev {k : Nat} {p1 p2 p3 : Pos} (hK : X.K = c.K) (ha : PE X a (tE c W fa)) :
    PE X (.Subscript a (.Slice none none (some (.UnaryOp .USub (.Constant (.int 1) k p1) p2)) p3) pos) (tE c W fun σ S => (fa σ S).bnd fun x S => ML.revD x S) := PE.mono (L2.pe_revL ha) fun τ H Q h => by
  obtain ⟨ρ, S, σ, rs, re, p⟩ := h
  refine ⟨ρ, S, σ, rs, re, p.bnd.mono fun d S1 ρ1 H1 f1 rs1 p1 v r => ?_⟩
  unfold ML.revD at p1
  cases d with
  | loc l =>
    dsimp only at p1
    cases el : ML.lstAt S1 l with
    | none => rw [el] at p1; exact p1.elim
    | some xs =>
      rw [el] at p1
      obtain ⟨a, vs, e, _, t, g, _⟩ := rs1.lst (lstAt_of el) r
      exact ⟨a, vs, e, .inl (.inl t), (Pst.lst p1 rs1 g.reverse).2⟩
  | _ => exact p1.elim
/-- a + b, both read at once -/
def rCatLi (c : Cn) : L2.R2 := fun x y H Q => ∃ (q r : ML.Li) (a b : Addr) (vs ws : List V) (ρ : List Addr), x = .ref a ∧ y = .ref b ∧ RDs c ρ H q.xs vs ∧ RDs c ρ H r.xs ws ∧ q.b = r.b ∧ (q.b = true → H a = some (.lst vs) ∧ H b = some (.lst ws)) ∧ (q.b = false → SqT c.K H a vs ∧ SqT c.K H b ws) ∧ vs.length + ws.length ≤ sizeLine ∧
  (q.b = true → ∀ p, H p = none → Q (.ref p) (upd H p (.lst (vs ++ ws)))) ∧ (q.b = false → (∀ p, SqT c.K H p (vs ++ ws) → Q (.ref p) H) ∧ ∀ p, H p = none → Q (.ref p) (upd H p (.tup (vs ++ ws))))
theorem op_catLi (hK : X.K = c.K) : OpR X (binaryOp .Add) (rCatLi c) := by
  intro pins s σ H x y v u Q I rx ry h
  obtain ⟨q, r, a, b, vs, ws, ρ, e1, e2, r1, r2, hb, k1, k2, z, h1, h2⟩ := h
  cases hb' : q.b with
  | true =>
    obtain ⟨t1, t2⟩ := k1 hb'
    exact L2.op_cat pins s σ H x y v u Q I rx ry ⟨a, b, vs, ws, e1, e2, t1, t2, z, h1 hb'⟩
  | false =>
    obtain ⟨t1, t2⟩ := k2 hb'
    obtain ⟨g1, g2⟩ := h2 hb'
    rw [← hK] at t1 t2
    by_cases h0 : vs = []
    · subst h0
      exact op_catT0 pins s σ H x y v u Q I rx ry ⟨a, b, ws, e1, e2, t1, t2, g1 b (by rw [← hK]; exact t2)⟩
    · exact L2.op_catT pins s σ H x y v u Q I rx ry ⟨a, b, vs, ws, e1, e2, t1, t2, h0, z, fun hw => g1 a (by subst hw; rw [List.append_nil, ← hK]; exact t1), fun hw => g2⟩
theorem n_add (hK : X.K = c.K) (ha : PE X a (tL c W f)) (hb : PE X b (tL c W g)) (hg : ∀ σ S q S', g σ S = .ok q S' → q.g.ok S' = true) :
    PE X (.BinOp a .Add b pos) (tN c W fun σ S => (f σ S).bnd fun p S => (g σ S).bnd fun q S => if p.b == q.b && !p.r && !q.r && p.g.ok S && decide (p.xs.length + q.xs.length ≤ ML.lim) then .ok ⟨p.b, p.xs ++ q.xs, [], false⟩ S else .bad) := PE.mono (L2.pe_op (op_catLi hK) ha hb) fun τ H Q h => by
  obtain ⟨ρ, S, σ, rs, re, p⟩ := h
  refine ⟨ρ, S, σ, rs, re, p.bnd.mono fun q1 S1 ρ1 H1 f1 rs1 p1 a lk1 => ?_⟩
  refine ⟨ρ1, S1, σ, rs1, re.mono rs f1, p1.bnd.monoE fun q2 S2 ρ2 H2 ee f2 rs2 p2 b lk2 => ?_⟩
  by_cases hc : (q1.b == q2.b && !q1.r && !q2.r && q1.g.ok S2 && decide (q1.xs.length + q2.xs.length ≤ ML.lim)) = true
  · rw [if_pos hc] at p2
    simp only [Bool.and_eq_true, beq_iff_eq, Bool.not_eq_true', decide_eq_true_eq] at hc
    obtain ⟨⟨⟨⟨hb, hr1⟩, hr2⟩, hg1⟩, hz⟩ := hc
    obtain ⟨vs, r1, _, t1, l1, _⟩ := (lk1.mono rs1 f2).at_ rs2 hg1
    obtain ⟨ws, r2, _, t2, l2, _⟩ := lk2.at_ rs2 (hg _ _ _ _ ee)
    have hz' : (q1.xs ++ q2.xs).length ≤ sizeLine := by rw [List.length_append]; exact lim_line hz
    refine ⟨q1, q2, a, b, vs, ws, ρ2, rfl, rfl, r1, r2, hb, fun h => ⟨l1 h hr1, l2 (by rw [← hb]; exact h) hr2⟩, fun h => ⟨t1 h, t2 (by rw [← hb]; exact h)⟩, by rw [← r1.len, ← r2.len]; exact lim_line hz, fun h t ht => ?_, fun h => ⟨fun t ht => ?_, fun t ht => ?_⟩⟩
    · exact (p2.ok rs2).1 h t _ ht hz' (r1.app r2)
    · refine (p2.ok rs2).2 h t ?_
      unfold Lk
      dsimp only
      rw [h]
      exact ⟨rfl, hz', _, ht, r1.app r2⟩
    · have p4 := p2 ρ2 (upd H2 t (.tup (vs ++ ws))) (Fr.new ht) (rs2.new ht)
      refine p4.2 h t ?_
      unfold Lk
      dsimp only
      rw [h]
      exact ⟨rfl, hz', _, .inl (.inl upd_same), (r1.app r2).mono rs2 (Fr.new ht)⟩
  · rw [if_neg hc] at p2; exact p2.elim
end
end MS
end
section
set_option linter.all false
set_option maxRecDepth 100000
set_option maxHeartbeats 1000000
/-! MS13: products, built-in functions. -/
namespace MS
open PySem
open L2 (V Hp HO SqL SqT Rd upd upd_same upd_ne RelV Vals TE TA TT TS TI TG TGs VK XK WX Cx Inv PE PT PW PA PS PSs PI PG PGs OpR It Turn PIE PTs CallR MtR)
section
variable {X : Cx} {c : Cn} {W : WX} {a b e : Expr} {es : List Expr} {fa fb fd : ML.Env → ML.St → ML.Out ML.D} {pos p2 : Pos} {f g : ML.Env → ML.St → ML.Out ML.Li} {fl : ML.Env → ML.St → ML.Out (List ML.D)}
theorem rep_len {α : Type} (n : Nat) (xs : List α) : (List.replicate n xs).flatten.length = xs.length * n := by
  rw [List.length_flatten]
  simp [Nat.mul_comm]
theorem RDs.rep {ρ : List Addr} {H : Hp} {ds : List ML.D} {vs : List V} (r : RDs c ρ H ds vs) : ∀ n : Nat, RDs c ρ H (List.replicate n ds).flatten (List.replicate n vs).flatten
  | 0 => by simp [RDs]
  | n + 1 => by
    rw [List.replicate_succ, List.replicate_succ, List.flatten_cons, List.flatten_cons]
    exact r.app (r.rep n)
theorem op_mulM : OpR X (binaryOp .Mult) (rB c (ML.binD .mul)) := by
  intro pins s σ H x y v u Q I rx ry h
  obtain ⟨ρ, S, w, d1, d2, rs, r1, r2, p⟩ := h
  cases d1 with
  | int i =>
    cases d2 with
    | int j =>
      simp only [RD] at r1 r2
      replace p : Pst c w ρ H (if (ML.small i || ML.small j) = true then .ok (ML.D.int (i * j)) S else .bad) _ := p
      by_cases hz : (ML.small i || ML.small j) = true
      · rw [if_pos hz] at p
        refine L2.op_mul pins s σ H x y v u Q I rx ry ⟨i, j, r1, r2, ?_, p.ok rs _ (by simp [RD])⟩
        rw [Bool.or_eq_true] at hz
        rcases hz with hz | hz
        · exact .inl (small_of hz)
        · exact .inr (small_of hz)
      · rw [if_neg hz] at p; exact p.elim
    | _ => exact p.elim
  | str a =>
    cases d2 with
    | int j =>
      simp only [RD] at r1 r2
      replace p : Pst c w ρ H (if -1000 ≤ j ∧ j ≤ 1000 then ML.mkStr ((List.replicate j.toNat a).flatten) S else .bad) _ := p
      by_cases hz : -1000 ≤ j ∧ j ≤ 1000
      · rw [if_pos hz] at p
        unfold ML.mkStr at p
        by_cases hy : (List.replicate j.toNat a).flatten.length ≤ ML.lim
        · rw [if_pos hy] at p
          refine op_mul_str pins s σ H x y v u Q I rx ry ⟨a, j, r1.1, r2, hz.2, by omega, by have := r1.2.2; omega, hy, p.ok rs _ ?_⟩
          simp only [RD]
          refine ⟨trivial, fun k hk => ?_, Nat.le_trans hy (by decide)⟩
          obtain ⟨l, hl, hk⟩ := List.mem_flatten.mp hk
          rw [List.eq_of_mem_replicate hl] at hk
          exact r1.2.1 k hk
        · rw [if_neg hy] at p; exact p.elim
      · rw [if_neg hz] at p; exact p.elim
    | _ => exact p.elim
  | loc l =>
    cases d2 with
    | int j =>
      simp only [RD] at r2
      unfold ML.binD at p
      dsimp only at p
      cases e1 : S[l]? with
      | none => rw [e1] at p; exact p.elim
      | some o =>
        cases o with
        | lst xs =>
          rw [e1] at p
          dsimp only at p
          by_cases hz : -1000 ≤ j ∧ j ≤ 1000
          · rw [if_pos hz] at p
            obtain ⟨a1, vs, h1, _, k1, g1, _⟩ := rs.lst e1 r1
            obtain ⟨hy, q⟩ := p.lst rs (g1.rep j.toNat)
            refine L2.op_rep pins s σ H x y v u Q I rx ry ⟨a1, j, vs, h1, r2, k1, by omega, by omega, ?_, q⟩
            rw [rep_len] at hy
            rw [← g1.len]
            exact lim_line hy
          · rw [if_neg hz] at p; exact p.elim
        | _ => rw [e1] at p; exact p.elim
    | _ => exact p.elim
  | _ => cases d2 <;> exact p.elim
/-! ### calls of built-in functions by values -/
def rCB (c : Cn) (f : List ML.D → ML.St → ML.Out ML.D) : List V → Hp → VK → Prop := fun xs H Q => ∃ ρ S w ds, RS c ρ H S ∧ RDs c ρ H ds xs ∧ Pst c w ρ H (f ds S) fun d S' ρ' H' => ∀ v, RD c ρ' H' d v → Q v H'
theorem e_call {g : List ML.D → ML.St → ML.Out ML.D} {fn : Expr} (ha : PA X es (tA c W fl)) (hc : ∀ t, PA X es t → PE X (.Call fn es [] pos) (L2.tCB (rCB c g) t)) :
    PE X (.Call fn es [] pos) (tE c W fun σ S => (fl σ S).bnd fun ds S => g ds S) := PE.mono (hc _ ha) fun τ H Q h => by
  obtain ⟨ρ, S, σ, rs, re, p⟩ := h
  exact ⟨ρ, S, σ, rs, re, p.bnd.mono fun ds S1 ρ1 H1 f1 rs1 p1 vs rv => ⟨ρ1, S1, _, ds, rs1, rv, p1⟩⟩
theorem RDs.one {ρ : List Addr} {H : Hp} {d : ML.D} {xs : List V} (r : RDs c ρ H [d] xs) : ∃ x, xs = [x] ∧ RD c ρ H d x := by
  simp only [RDs] at r
  obtain ⟨v, l, e, r1, e2⟩ := r
  subst e2
  exact ⟨v, e, r1⟩
theorem RDs.two {ρ : List Addr} {H : Hp} {d d2 : ML.D} {xs : List V} (r : RDs c ρ H [d, d2] xs) : ∃ x y, xs = [x, y] ∧ RD c ρ H d x ∧ RD c ρ H d2 y := by
  simp only [RDs] at r
  obtain ⟨v, l, e, r1, w, l2, e2, r2, e3⟩ := r
  subst e3 e2
  exact ⟨v, w, e, r1, r2⟩
theorem rks_len {ρ : List Addr} {H : Hp} : ∀ {t : List (ML.D × ML.D)} {vs : List (L2.Key × V)}, RKs c ρ H t vs → t.length = vs.length
  | [], vs, g => by simp only [RKs] at g; subst g; rfl
  | q :: t, vs, g => by
    simp only [RKs] at g
    obtain ⟨k, v, r', e, _, _, _, g⟩ := g
    subst e
    simp [rks_len g]
theorem b_len (hK : X.K = c.K) : CallR X (.builtin "len") (rCB c (ML.bltD .len)) := by
  intro pins s σ H xs us Q I r h
  obtain ⟨ρ, S, w, ds, rs, rd, p⟩ := h
  match ds, p with
  | [], p => exact p.elim
  | [d], p =>
    obtain ⟨x, ex, rx⟩ := rd.one
    cases d with
    | str t =>
      simp only [RD] at rx
      refine L2.call_len pins s σ H xs us Q I r ⟨x, t.length, ex, ?_, p.ok rs _ (by simp [RD])⟩
      rw [rx.1]
      exact ⟨rx.2.line, (sg_len t).symm⟩
    | tup t =>
      simp only [RD] at rx
      obtain ⟨z, a, vs, e, t1, g⟩ := rx
      exact L2.call_len_seq pins s σ H xs us Q I r ⟨a, vs, by rw [ex, e], .inr (by rw [hK]; exact t1), by rw [← g.len]; exact p.ok rs _ (by simp [RD])⟩
    | rol t =>
      simp only [RD] at rx
      obtain ⟨z, a, vs, e, t1, g⟩ := rx
      exact L2.call_len_seq pins s σ H xs us Q I r ⟨a, vs, by rw [ex, e], .inl (by rw [hK]; exact t1.l), by rw [← g.len]; exact p.ok rs _ (by simp [RD])⟩
    | loc l =>
      unfold ML.bltD at p
      dsimp only at p
      cases e1 : S[l]? with
      | none => rw [e1] at p; exact p.elim
      | some o =>
        cases o with
        | lst t =>
          rw [e1] at p
          obtain ⟨a, vs, e, _, t1, g, _⟩ := rs.lst e1 rx
          exact L2.call_len_seq pins s σ H xs us Q I r ⟨a, vs, by rw [ex, e], .inl (.inl (.inl t1)), by rw [← g.len]; exact p.ok rs _ (by simp [RD])⟩
        | dct t =>
          rw [e1] at p
          obtain ⟨a, vs, e, _, t1, _, g⟩ := rs.dct e1 rx
          exact L2.call_lenD pins s σ H xs us Q I r ⟨a, vs, by rw [ex, e], t1, by rw [← rks_len g]; exact p.ok rs _ (by simp [RD])⟩
        | _ => rw [e1] at p; exact p.elim
    | _ => exact p.elim
  | d :: d2 :: r, p => cases d <;> exact p.elim
theorem b_int : CallR X (.type "int") (rCB c (ML.bltD .int)) := by
  intro pins s σ H xs us Q I r h
  obtain ⟨ρ, S, w, ds, rs, rd, p⟩ := h
  match ds, p with
  | [], p => exact p.elim
  | [d], p =>
    obtain ⟨x, ex, rx⟩ := rd.one
    cases d with
    | int i =>
      simp only [RD] at rx
      exact L2.call_int1 pins s σ H xs us Q I r (.inl ⟨i, by rw [ex, rx], p.ok rs _ (by simp [RD])⟩)
    | bl i =>
      simp only [RD] at rx
      exact L2.call_int1 pins s σ H xs us Q I r (.inr ⟨i, by rw [ex, rx], p.ok rs _ (by simp [RD])⟩)
    | _ => exact p.elim
  | d :: d2 :: r, p => cases d <;> exact p.elim
theorem b_abs : CallR X (.builtin "abs") (rCB c (ML.bltD .abs)) := by
  intro pins s σ H xs us Q I r h
  obtain ⟨ρ, S, w, ds, rs, rd, p⟩ := h
  match ds, p with
  | [], p => exact p.elim
  | [d], p =>
    obtain ⟨x, ex, rx⟩ := rd.one
    cases d with
    | int i =>
      simp only [RD] at rx
      exact L2.call_abs pins s σ H xs us Q I r ⟨i, by rw [ex, rx], p.ok rs _ (by simp [RD])⟩
    | _ => exact p.elim
  | d :: d2 :: r, p => cases d <;> exact p.elim
theorem digits_repr (n : Nat) : (Nat.toDigits 10 n).map Char.toNat = (Nat.repr n).toList.map Char.toNat := by
  rw [Nat.repr]
  simp
theorem b_max2 (hc : X.calm = true) : CallR X (.builtin "max") (rCB c (ML.bltD .max2)) := by
  intro pins s σ H xs us Q I r h
  obtain ⟨ρ, S, w, ds, rs, rd, p⟩ := h
  match ds, p with
  | [], p => exact p.elim
  | [d], p => cases d <;> exact p.elim
  | [.int i, .int j], p =>
    obtain ⟨x, y, ex, rx, ry⟩ := rd.two
    simp only [RD] at rx ry
    exact L2.call_max2 hc pins s σ H xs us Q I r ⟨i, j, by rw [ex, rx, ry], p.ok rs _ (by simp [RD])⟩
  | .int i :: .non :: [], p | .int i :: .bl _ :: [], p | .int i :: .str _ :: [], p | .int i :: .tup _ :: [], p | .int i :: .loc _ :: [], p | .int i :: .rol _ :: [], p => exact p.elim
  | .non :: _ :: [], p | .bl _ :: _ :: [], p | .str _ :: _ :: [], p | .tup _ :: _ :: [], p | .loc _ :: _ :: [], p | .rol _ :: _ :: [], p => exact p.elim
  | d :: d2 :: d3 :: r, p => cases d <;> first | exact p.elim | (cases d2 <;> exact p.elim)
theorem b_min2 (hc : X.calm = true) : CallR X (.builtin "min") (rCB c (ML.bltD .min2)) := by
  intro pins s σ H xs us Q I r h
  obtain ⟨ρ, S, w, ds, rs, rd, p⟩ := h
  match ds, p with
  | [], p => exact p.elim
  | [d], p => cases d <;> exact p.elim
  | [.int i, .int j], p =>
    obtain ⟨x, y, ex, rx, ry⟩ := rd.two
    simp only [RD] at rx ry
    exact L2.call_min2 hc pins s σ H xs us Q I r ⟨i, j, by rw [ex, rx, ry], p.ok rs _ (by simp [RD])⟩
  | .int i :: .non :: [], p | .int i :: .bl _ :: [], p | .int i :: .str _ :: [], p | .int i :: .tup _ :: [], p | .int i :: .loc _ :: [], p | .int i :: .rol _ :: [], p => exact p.elim
  | .non :: _ :: [], p | .bl _ :: _ :: [], p | .str _ :: _ :: [], p | .tup _ :: _ :: [], p | .loc _ :: _ :: [], p | .rol _ :: _ :: [], p => exact p.elim
  | d :: d2 :: d3 :: r, p => cases d <;> first | exact p.elim | (cases d2 <;> exact p.elim)
theorem tup_of (hK : X.K = c.K) {ρ : List Addr} {H : Hp} {S : ML.St} {w : XW} {Q : VK} {q : ML.Li} {a : Addr} (rs : RS c ρ H S) (lk : Lk c q ρ H a) (hg : q.g.ok S = true)
    (p : Pst c w ρ H (.ok (.tup q.xs) S) fun d S' ρ' H' => ∀ v, RD c ρ' H' d v → Q v H') :
    ∃ p0 ys, [V.ref a] = [.ref p0] ∧ ((SqL X.K H p0 ys ∧ ∀ l, H l = none → Q (.ref l) (upd H l (.tup ys))) ∨ (SqT X.K H p0 ys ∧ Q (.ref p0) H)) := by
  obtain ⟨vs, r, k1, k2, _, z⟩ := lk.at_ rs hg
  cases hb : q.b with
  | true => exact ⟨a, vs, rfl, .inl ⟨by rw [hK]; exact k1 hb, p.tup rs r z⟩⟩
  | false =>
    refine ⟨a, vs, rfl, .inr ⟨by rw [hK]; exact k2 hb, p.ok rs _ ?_⟩⟩
    simp only [RD]
    exact ⟨z, a, vs, rfl, k2 hb, r⟩
theorem lk_of {ρ : List Addr} {H : Hp} {S : ML.St} {d : ML.D} {v : V} {xs : List ML.D} (rs : RS c ρ H S) (r : RD c ρ H d v) (h : ML.itemsOf S d = some xs) : ∃ a q, v = .ref a ∧ q.xs = xs ∧ Lk c q ρ H a ∧ q.g.ok S = true := by
  cases d with
  | tup ys =>
    cases h
    simp only [RD] at r
    obtain ⟨z, a, vs, e, t, g⟩ := r
    exact ⟨a, ⟨false, xs, [], false⟩, e, rfl, ⟨rfl, z, vs, t, g⟩, rfl⟩
  | rol ys =>
    cases h
    simp only [RD] at r
    obtain ⟨z, a, vs, e, t, g⟩ := r
    exact ⟨a, ⟨true, xs, [], true⟩, e, rfl, .inr (.inl ⟨rfl, rfl, z, vs, t, g⟩), rfl⟩
  | loc l =>
    have h : ML.lstAt S l = some xs := h
    obtain ⟨a, vs, e, ea, t, g, _⟩ := rs.lst (lstAt_of h) r
    refine ⟨a, ⟨true, xs, [(l, .lst xs)], false⟩, e, rfl, .inr (.inr ⟨l, rfl, rfl, ea⟩), ?_⟩
    unfold ML.Gd.ok
    simp [lstAt_of h]
  | _ => cases h
theorem b_tup (hK : X.K = c.K) : CallR X (.type "tuple") (rCB c (ML.bltD .tup)) := by
  intro pins s σ H xs us Q I r h
  obtain ⟨ρ, S, w, ds, rs, rd, p⟩ := h
  match ds, p with
  | [], p => exact p.elim
  | [d], p =>
    obtain ⟨x, ex, rx⟩ := rd.one
    unfold ML.bltD at p
    dsimp only at p
    cases e1 : ML.itemsOf S d with
    | none => rw [e1] at p; cases d <;> exact p.elim
    | some ys =>
      obtain ⟨a, q, e2, e3, lk, hg⟩ := lk_of rs rx e1
      rw [e1] at p
      subst e3
      have p : Pst c w ρ H (.ok (.tup q.xs) S) fun d S' ρ' H' => ∀ v, RD c ρ' H' d v → Q v H' := by
        cases d <;> first | exact p | cases e1
      obtain ⟨p0, zs, e4, h⟩ := tup_of hK rs lk hg p
      exact L2.call_tuple_of pins s σ H xs us Q I r ⟨p0, zs, by rw [ex, e2]; exact e4, h⟩
  | d :: d2 :: r, p => cases d <;> exact p.elim
/-! ### of a list or tuple that is read at once -/
def rLi (c : Cn) (f : ML.Li → ML.St → ML.Out ML.D) : List V → Hp → VK → Prop := fun xs H Q => ∃ ρ S w q a, RS c ρ H S ∧ xs = [.ref a] ∧ Lk c q ρ H a ∧ q.g.ok S = true ∧ Pst c w ρ H (f q S) fun d S' ρ' H' => ∀ v, RD c ρ' H' d v → Q v H'
theorem e_callL {g : ML.Li → ML.St → ML.Out ML.D} {fn : Expr} (hl : PE X e (tL c W f)) (hs : ∀ x p, e ≠ .Starred x p) (hgd : ∀ σ S q S', f σ S = .ok q S' → q.g.ok S' = true)
    (hc : ∀ t, PA X [e] t → PE X (.Call fn [e] [] pos) (L2.tCB (rLi c g) t)) :
    PE X (.Call fn [e] [] pos) (tE c W fun σ S => (f σ S).bnd fun q S => g q S) := PE.mono (hc _ (L2.pa_cons hl L2.pa_nil (starEach_cons hs))) fun τ H Q h => by
  obtain ⟨ρ, S, σ, rs, re, p⟩ := h
  exact ⟨ρ, S, σ, rs, re, p.bnd.monoE fun q S' ρ' H' ee fr rs' p1 a lk => ⟨ρ', S', _, q, a, rs', rfl, lk, hgd _ _ _ _ ee, p1⟩⟩
theorem l_tup (hK : X.K = c.K) : CallR X (.type "tuple") (rLi c (ML.lbD .tup)) := by
  intro pins s σ H xs us Q I r h
  obtain ⟨ρ, S, w, q, a, rs, ex, lk, hg, p⟩ := h
  obtain ⟨p0, zs, e4, h⟩ := tup_of hK rs lk hg p
  exact L2.call_tuple_of pins s σ H xs us Q I r ⟨p0, zs, by rw [ex]; exact e4, h⟩
theorem l_len (hK : X.K = c.K) : CallR X (.builtin "len") (rLi c (ML.lbD .len)) := by
  intro pins s σ H xs us Q I r h
  obtain ⟨ρ, S, w, q, a, rs, ex, lk, hg, p⟩ := h
  obtain ⟨vs, r', k1, k2, _, z⟩ := lk.at_ rs hg
  replace p : Pst c w ρ H (.ok (ML.D.int q.xs.length) S) _ := p
  refine L2.call_len_seq pins s σ H xs us Q I r ⟨a, vs, ex, ?_, by rw [← r'.len]; exact p.ok rs _ (by simp [RD])⟩
  cases hb : q.b with
  | true => exact .inl (by rw [hK]; exact k1 hb)
  | false => exact .inr (by rw [hK]; exact k2 hb)
theorem bools_of {ρ : List Addr} {H : Hp} : ∀ {ds : List ML.D} {vs : List V} {bs : List Bool}, RDs c ρ H ds vs → ML.bools ds = some bs → vs = bs.map V.bl
  | [], vs, bs, r, h => by
    simp only [RDs] at r
    cases h
    exact r
  | .bl b :: ds, vs, bs, r, h => by
    simp only [RDs, RD] at r
    obtain ⟨v, l, e, e1, r2⟩ := r
    simp only [ML.bools] at h
    cases e2 : ML.bools ds with
    | none => rw [e2] at h; cases h
    | some cs =>
      rw [e2] at h
      cases h
      rw [e, e1, bools_of r2 e2]
      rfl
  | .non :: _, _, _, _, h | .int _ :: _, _, _, _, h | .str _ :: _, _, _, _, h | .tup _ :: _, _, _, _, h | .loc _ :: _, _, _, _, h | .rol _ :: _, _, _, _, h => by cases h
theorem ints_of {ρ : List Addr} {H : Hp} : ∀ {ds : List ML.D} {vs : List V} {bs : List Int}, RDs c ρ H ds vs → ML.intsD ds = some bs → vs = bs.map V.int
  | [], vs, bs, r, h => by
    simp only [RDs] at r
    cases h
    exact r
  | .int b :: ds, vs, bs, r, h => by
    simp only [RDs, RD] at r
    obtain ⟨v, l, e, e1, r2⟩ := r
    simp only [ML.intsD] at h
    cases e2 : ML.intsD ds with
    | none => rw [e2] at h; cases h
    | some cs =>
      rw [e2] at h
      cases h
      rw [e, e1, ints_of r2 e2]
      rfl
  | .non :: _, _, _, _, h | .bl _ :: _, _, _, _, h | .str _ :: _, _, _, _, h | .tup _ :: _, _, _, _, h | .loc _ :: _, _, _, _, h | .rol _ :: _, _, _, _, h => by cases h
theorem l_all (hK : X.K = c.K) (hc : X.calm = true) : CallR X (.builtin "all") (rLi c (ML.lbD .all)) := by
  intro pins s σ H xs us Q I r h
  obtain ⟨ρ, S, w, q, a, rs, ex, lk, hg, p⟩ := h
  obtain ⟨vs, r', k1, k2, _, z⟩ := lk.at_ rs hg
  unfold ML.lbD at p
  dsimp only at p
  by_cases hb : q.b = true
  · rw [if_pos hb] at p
    obtain ⟨d, e, p⟩ := p.okO
    cases e1 : ML.bools q.xs with
    | none => rw [e1] at e; cases e
    | some bs =>
      rw [e1] at e
      cases e
      have := bools_of r' e1
      subst this
      exact L2.cr_all hc pins s σ H xs us Q I r ⟨a, bs, ex, by rw [hK]; exact k1 hb, p.ok rs _ (by simp [RD])⟩
  · rw [if_neg hb] at p; exact p.elim
theorem l_any (hK : X.K = c.K) (hc : X.calm = true) : CallR X (.builtin "any") (rLi c (ML.lbD .any)) := by
  intro pins s σ H xs us Q I r h
  obtain ⟨ρ, S, w, q, a, rs, ex, lk, hg, p⟩ := h
  obtain ⟨vs, r', k1, k2, _, z⟩ := lk.at_ rs hg
  unfold ML.lbD at p
  dsimp only at p
  by_cases hb : q.b = true
  · rw [if_pos hb] at p
    obtain ⟨d, e, p⟩ := p.okO
    cases e1 : ML.bools q.xs with
    | none => rw [e1] at e; cases e
    | some bs =>
      rw [e1] at e
      cases e
      have := bools_of r' e1
      subst this
      exact L2.cr_any hc pins s σ H xs us Q I r ⟨a, bs, ex, by rw [hK]; exact k1 hb, p.ok rs _ (by simp [RD])⟩
  · rw [if_neg hb] at p; exact p.elim
theorem l_sum (hK : X.K = c.K) (hc : X.calm = true) : CallR X (.builtin "sum") (rLi c (ML.lbD .sum)) := by
  intro pins s σ H xs us Q I r h
  obtain ⟨ρ, S, w, q, a, rs, ex, lk, hg, p⟩ := h
  obtain ⟨vs, r', k1, k2, _, z⟩ := lk.at_ rs hg
  unfold ML.lbD at p
  dsimp only at p
  by_cases hb : q.b = true
  · rw [if_pos hb] at p
    obtain ⟨d, e, p⟩ := p.okO
    cases e1 : ML.intsD q.xs with
    | none => rw [e1] at e; cases e
    | some bs =>
      rw [e1] at e
      cases e
      have := ints_of r' e1
      subst this
      exact L2.cr_sum hc pins s σ H xs us Q I r ⟨a, bs, ex, by rw [hK]; exact k1 hb, p.ok rs _ (by simp [RD])⟩
  · rw [if_neg hb] at p; exact p.elim
end
end MS
end
section
set_option linter.all false
set_option maxRecDepth 100000
set_option maxHeartbeats 1000000
/-! MS14: what is walked, by its forms. -/
namespace MS
open PySem
open L2 (V Hp HO SqL SqT Rd upd upd_same upd_ne RelV Vals TE TA TT TS TI TG TGs VK XK WX Cx Inv PE PT PW PA PS PSs PI PG PGs OpR It Turn PIE PTs CallR MtR Gl)
section
variable {X : Cx} {c : Cn} {W : WX} {a b e tg : Expr} {es elts : List Expr} {fa fb fd : ML.Env → ML.St → ML.Out ML.D} {p pos tpos : Pos} {kk : Nat} {f g : ML.Env → ML.St → ML.Out ML.Li}
theorem it_rng (hg : Gl X "range") (hm : X.mg "range" = none) (hs : ∀ x p, a ≠ .Starred x p) (ha : PE X a (tE c W fa)) : PI X tg (.Call (.Name "range" p) [a] [] pos) (tIt c W fun σ S => (fa σ S).bnd fun x S => match x with
    | .int i => if -ML.lim ≤ i ∧ i ≤ ML.lim then .ok (ML.rngD 0 i, []) S else .bad
    | _ => .bad) := PI.mono (L2.pi_range1 hg hm (L2.pa_cons ha L2.pa_nil (starEach_cons hs)) (starEach_cons hs)) fun τ H R h => by
  obtain ⟨ρ, S, σ, rs, re, q⟩ := h
  refine ⟨ρ, S, σ, rs, re, q.bnd.mono fun d S1 ρ1 H1 f1 rs1 p1 v r => ?_⟩
  cases d with
  | int i =>
    dsimp only at p1
    by_cases hz : -ML.lim ≤ i ∧ i ≤ ML.lim
    · rw [if_pos hz] at p1
      simp only [RD] at r
      have l : (ML.lim : Int) = 1000000 := rfl
      refine ⟨i, by rw [r], by omega, by omega, ?_⟩
      have := p1.ok rs1 (L2.Itr 0 (i - 0).toNat) (Rl.rng 0 i (by omega))
      rwa [Int.sub_zero] at this
    · rw [if_neg hz] at p1; exact p1.elim
  | _ => exact p1.elim
theorem it_rng2 (hg : Gl X "range") (hm : X.mg "range" = none) (hs : ∀ x p, a ≠ .Starred x p) (hs2 : ∀ x p, b ≠ .Starred x p) (ha : PE X a (tE c W fa)) (hb : PE X b (tE c W fb)) :
    PI X tg (.Call (.Name "range" p) [a, b] [] pos) (tIt c W fun σ S => (fa σ S).bnd fun x S => (fb σ S).bnd fun y S => match x, y with
    | .int i, .int j => if -ML.lim ≤ i ∧ i ≤ ML.lim ∧ -ML.lim ≤ j ∧ j ≤ ML.lim ∧ j - i ≤ ML.lim then .ok (ML.rngD i j, []) S else .bad
    | _, _ => .bad) := PI.mono (L2.pi_range2 hg hm (L2.pa_cons ha (L2.pa_cons hb L2.pa_nil (starEach_cons hs2)) (starEach_cons hs)) (by rw [starEach_cons hs, starEach_cons hs2]; rfl) (starEach_cons hs2)) fun τ H R h => by
  obtain ⟨ρ, S, σ, rs, re, q⟩ := h
  refine ⟨ρ, S, σ, rs, re, q.bnd.mono fun d S1 ρ1 H1 f1 rs1 p1 v r => ?_⟩
  refine ⟨ρ1, S1, σ, rs1, re.mono rs f1, p1.bnd.mono fun d2 S2 ρ2 H2 f2 rs2 p2 v2 r2 => ?_⟩
  cases d with
  | int i =>
    cases d2 with
    | int j =>
      dsimp only at p2
      by_cases hz : -ML.lim ≤ i ∧ i ≤ ML.lim ∧ -ML.lim ≤ j ∧ j ≤ ML.lim ∧ j - i ≤ ML.lim
      · rw [if_pos hz] at p2
        simp only [RD] at r r2
        have l : (ML.lim : Int) = 1000000 := rfl
        exact ⟨i, j, by rw [r, r2], by omega, p2.ok rs2 (L2.Itr i (j - i).toNat) (Rl.rng i j (by omega))⟩
      · rw [if_neg hz] at p2; exact p2.elim
    | _ => exact p2.elim
  | _ => exact p2.elim
/-- enumerate of a list or a tuple -/
def iEnumM (K : PySem.W.Frag) (ta : TA) : TI := fun σ H R => ta σ H fun vs H1 => ∃ a xs, vs = [V.ref a] ∧ ((SqL K H1 a xs ∧ R (L2.Ite K a) H1) ∨ (SqT K H1 a xs ∧ R (IteT K a) H1))
open L2 PySem.Spec PyProof.Rows in
theorem pi_enumM {X : Cx} {e : Expr} {ta : TA} {p pos tpos : Pos} {elts : List Expr} {kk : Nat} (hg : Gl X "enumerate") (hm : X.mg "enumerate" = none) (ha : PA X [e] ta) (hs : starEach [e] X.env = [(false, eval e X.env)]) :
    PI X (.Tuple elts kk tpos) (.Call (.Name "enumerate" p) [e] [] pos) (iEnumM X.K ta) := by
  refine ⟨fun pins s σ H R I h => ?_⟩
  refine Call_ (ld_blt I hg hm boot_enumerate (callWith_type1 (thn (ha.run pos pins s σ H _ I h) fun us s1 ⟨vs, H1, I1, r1, q1⟩ => ?_) hs rfl))
  obtain ⟨a, xs, ex, q⟩ := q1
  subst ex
  cases r1 with
  | cons r rr =>
    cases rr
    cases r
    rcases q with ⟨hq, q⟩ | ⟨hq, q⟩
    · obtain ⟨its, rv, p', hz⟩ := I1.list hq
      refine call_enumerate_list p'.isList fun h' he hit hsz hk => wpAny_pyIter_enum he ?_
      have I2 : Inv X pins σ H1 { s1 with heap := h' } := I1.kept (t' := s1.toks) hk
      refine ⟨s1.heap.objs.size + 1, [s1.heap.objs.size + 1, s1.heap.objs.size], _, _, H1, rfl, I2, turn_enum a (s1.heap.objs.size + 1) s1.heap.objs.size, ⟨⟨.none, he⟩, hit, Nat.succ_ne_self _⟩, fun b hb => ?_, q⟩
      have e' : b = s1.heap.objs.size + 1 ∨ b = s1.heap.objs.size := by simpa using hb
      have hle : s1.heap.objs.size ≤ b := by
        rcases e' with z | z
        · rw [z]; exact Nat.le_add_right _ _
        · rw [z]; exact Nat.le_refl _
      exact I1.fpOk hle (I1.hok.fresh hle)
    · obtain ⟨its, rv, p', hz⟩ := I1.tuple hq
      have hlt : a < s1.heap.objs.size := by obtain ⟨o, ho, _⟩ := p'; exact Heap.lt_size ho
      refine call_enum_tuple (t := a) (items := its.toArray) p' fun h' he hit hsz hk => wpAny_pyIter_enum he ?_
      have I2 : Inv X pins σ H1 { s1 with heap := h' } := I1.kept (t' := s1.toks) hk
      refine ⟨s1.heap.objs.size + 1, [s1.heap.objs.size + 1, s1.heap.objs.size], _, _, H1, rfl, I2, turn_enumT a (s1.heap.objs.size + 1) s1.heap.objs.size (Nat.ne_of_lt hlt) (Nat.ne_of_lt (Nat.lt_succ_of_lt hlt)), ⟨⟨.none, he⟩, hit, Nat.succ_ne_self _⟩, fun b hb => ?_, q⟩
      have e' : b = s1.heap.objs.size + 1 ∨ b = s1.heap.objs.size := by simpa using hb
      have hle : s1.heap.objs.size ≤ b := by
        rcases e' with z | z
        · rw [z]; exact Nat.le_add_right _ _
        · rw [z]; exact Nat.le_refl _
      exact I1.fpOk hle (I1.hok.fresh hle)
theorem it_enum (hK : X.K = c.K) (hg : Gl X "enumerate") (hm : X.mg "enumerate" = none) (hs : ∀ x p, e ≠ .Starred x p) (ha : PE X e (tL c W f)) (hgd : ∀ σ S q S', f σ S = .ok q S' → q.g.ok S' = true) :
    PI X (.Tuple elts kk tpos) (.Call (.Name "enumerate" p) [e] [] pos) (tIt c W fun σ S => (f σ S).bnd fun p S => .ok (p.xs.zipIdx.map fun q => .tup [.int q.2, q.1], p.g) S) :=
  PI.mono (pi_enumM hg hm (L2.pa_cons ha L2.pa_nil (starEach_cons hs)) (starEach_cons hs)) fun τ H R h => by
  obtain ⟨ρ, S, σ, rs, re, q⟩ := h
  refine ⟨ρ, S, σ, rs, re, q.bnd.monoE fun q S1 ρ1 H1 ee f1 rs1 p1 a lk => ?_⟩
  obtain ⟨vs, r, k1, k2, _, _⟩ := lk.at_ rs1 (hgd _ _ _ _ ee)
  have p2 := p1.ok rs1
  refine ⟨a, vs, rfl, ?_⟩
  cases hb : q.b with
  | true => exact .inl ⟨by rw [hK]; exact k1 hb, p2 _ (by rw [hK]; exact Rl.enumL lk rs1 hb)⟩
  | false => exact .inr ⟨by rw [hK]; exact k2 hb, p2 _ (by rw [hK]; exact Rl.enumT lk rs1 hb)⟩
theorem it_zip (hK : X.K = c.K) (hg : Gl X "zip") (hm : X.mg "zip" = none) (hs : ∀ x p, a ≠ .Starred x p) (hs2 : ∀ x p, b ≠ .Starred x p) (ha : PE X a (tL c W f)) (hb : PE X b (tL c W g))
    (hgd : ∀ σ S q S', g σ S = .ok q S' → q.g.ok S' = true) :
    PI X (.Tuple elts kk tpos) (.Call (.Name "zip" p) [a, b] [] pos) (tIt c W fun σ S => (f σ S).bnd fun p S => (g σ S).bnd fun q S => if p.b == q.b && p.g.ok S then .ok ((p.xs.zip q.xs).map fun r => .tup [r.1, r.2], p.g ++ q.g) S else .bad) :=
  PI.mono (RZ.pi_zipA hg hm (L2.pa_cons ha (L2.pa_cons hb L2.pa_nil (starEach_cons hs2)) (starEach_cons hs)) (starEach_cons hs) (by rw [starEach_cons hs2]; rfl)) fun τ H R h => by
  obtain ⟨ρ, S, σ, rs, re, q⟩ := h
  refine ⟨ρ, S, σ, rs, re, q.bnd.mono fun q1 S1 ρ1 H1 f1 rs1 p1 a1 lk1 => ?_⟩
  refine ⟨ρ1, S1, σ, rs1, re.mono rs f1, p1.bnd.monoE fun q2 S2 ρ2 H2 ee f2 rs2 p2 a2 lk2 => ?_⟩
  by_cases hz : (q1.b == q2.b && q1.g.ok S2) = true
  · rw [if_pos hz] at p2
    simp only [Bool.and_eq_true, beq_iff_eq] at hz
    obtain ⟨hb, hg1⟩ := hz
    have lk1' := lk1.mono rs1 f2
    obtain ⟨vs, r, k1, k2, _, _⟩ := lk1'.at_ rs2 hg1
    obtain ⟨ws, r', k1', k2', _, _⟩ := lk2.at_ rs2 (hgd _ _ _ _ ee)
    have p3 := p2.ok rs2
    refine ⟨a1, a2, vs, ws, rfl, ?_⟩
    cases hb1 : q1.b with
    | true =>
      have hb2 : q2.b = true := by rw [← hb]; exact hb1
      exact .inl ⟨by rw [hK]; exact k1 hb1, by rw [hK]; exact k1' hb2, p3 _ (by rw [hK]; exact Rl.zipL lk1' lk2 rs2 hb1 hb2)⟩
    | false =>
      have hb2 : q2.b = false := by rw [← hb]; exact hb1
      exact .inr ⟨by rw [hK]; exact k2 hb1, by rw [hK]; exact k2' hb2, p3 _ (by rw [hK]; exact Rl.zipT lk1' lk2 rs2 hb1 hb2)⟩
  · rw [if_neg hz] at p2; exact p2.elim
theorem of_digits (n : Nat) : Str.ofString (Nat.repr n) = sg (ML.digits n) := by
  unfold ML.digits sg Nat.repr
  rw [Str.ofString_eq_toList]
  simp
theorem str_int (i : Int) : Str.ofString (toString i) = sg (ML.strInt i) := by
  cases i with
  | ofNat m =>
    show Str.ofString (Nat.repr m) = _
    rw [of_digits]
    rfl
  | negSucc m =>
    show Str.ofString ("-" ++ Nat.repr (m + 1)) = _
    unfold ML.strInt
    rw [if_pos (by omega)]
    have : Str.ofString ("-" ++ Nat.repr (m + 1)) = ⟨#[45] ++ (Str.ofString (Nat.repr (m + 1))).cps⟩ := by
      rw [Str.ofString_eq_toList, Str.ofString_eq_toList]
      simp
    rw [this, of_digits]
    unfold sg
    simp
end
end MS
end
section
set_option linter.all false
set_option maxRecDepth 100000
set_option maxHeartbeats 1000000
/-! MS15: texts of numbers, isinstance, methods of lists, dicts and texts, lists compared. -/
namespace MS
open PySem
open L2 (V Hp HO SqL SqT Rd upd upd_same upd_ne RelV Vals TE TA TT TS TI TG TGs VK XK WX Cx Inv PE PT PW PA PS PSs PI PG PGs OpR It Turn PIE PTs CallR MtR Gl)
section
variable {X : Cx} {c : Cn} {W : WX} {a b e tg : Expr} {es elts : List Expr} {fa fb fd : ML.Env → ML.St → ML.Out ML.D} {p pos tpos apos cpos : Pos} {kk : Nat} {f g : ML.Env → ML.St → ML.Out ML.Li} {fl : ML.Env → ML.St → ML.Out (List ML.D)}
theorem log2_small {n : Nat} (h : n < 1000000000000000000) : n.log2 < 1920 := by
  by_cases h0 : n = 0
  · subst h0; decide
  · rw [Nat.log2_lt h0]
    exact Nat.lt_of_lt_of_le h (by decide +kernel)
theorem digits_ok (n : Nat) (h : n < 1000000000000000000) : (∀ c ∈ ML.digits n, c < 0x110000) ∧ (ML.digits n).length ≤ 18 := by
  unfold ML.digits
  refine ⟨fun c hc => ?_, ?_⟩
  · obtain ⟨d, _, e⟩ := List.mem_map.mp hc
    rw [← e]
    have := d.valid
    have h2 : d.toNat < 0x110000 := by
      rcases this with h | h
      · exact Nat.lt_trans h (by decide)
      · exact h.2
    exact h2
  · rw [List.length_map, Nat.length_toDigits_le_iff (by decide) (by decide)]
    exact h
theorem strInt_ok {i : Int} (h : i.natAbs < 1000000000000000000) : sgOk (ML.strInt i) := by
  obtain ⟨h1, h2⟩ := digits_ok i.natAbs h
  unfold ML.strInt
  split
  · refine ⟨fun c hc => ?_, ?_⟩
    · rcases List.mem_cons.mp hc with z | z
      · rw [z]; decide
      · exact h1 c z
    · rw [List.length_cons]
      exact Nat.le_trans (Nat.succ_le_succ h2) (by decide)
  · exact ⟨h1, Nat.le_trans h2 (by decide)⟩
theorem b_str : CallR X (.type "str") (rCB c (ML.bltD .str)) := by
  intro pins s σ H xs us Q I r h
  obtain ⟨ρ, S, w, ds, rs, rd, p⟩ := h
  match ds, p with
  | [], p => exact p.elim
  | [d], p =>
    obtain ⟨x, ex, rx⟩ := rd.one
    cases d with
    | int i =>
      simp only [RD] at rx
      unfold ML.bltD at p
      dsimp only at p
      by_cases hz : i.natAbs < 1000000000000000000
      · rw [if_pos hz] at p
        refine L2.call_str_int pins s σ H xs us Q I r ⟨i, by rw [ex, rx], log2_small hz, ?_⟩
        rw [str_int]
        exact p.ok rs _ (by simp only [RD]; exact ⟨trivial, strInt_ok hz⟩)
      · rw [if_neg hz] at p; exact p.elim
    | _ => exact p.elim
  | d :: d2 :: r, p => cases d <;> exact p.elim
/-! ### isinstance -/
def tyN : ML.Ty → String
  | .str => "str" | .int => "int" | .bool => "bool" | .tup => "tuple" | .cls _ => ""
def tyOfD (S : ML.St) (d : ML.D) : Option String := match d with
  | .non => some "NoneType" | .bl _ => some "bool" | .int _ => some "int" | .str _ => some "str" | .tup _ => some "tuple" | .rol _ => some "list"
  | .loc l => match S[l]? with
    | some (.lst _) => some "list"
    | some (.dct _) => some "dict"
    | _ => none
theorem tyX_of {ρ : List Addr} {H : Hp} {S : ML.St} {d : ML.D} {v : V} {n : String} (rs : RS c ρ H S) (r : RD c ρ H d v) (h : tyOfD S d = some n) : L2.TyX c.K H v (.type n) := by
  cases d with
  | non => cases h; simp only [RD] at r; rw [r]; exact .base .non
  | bl _ => cases h; simp only [RD] at r; rw [r]; exact .base (.bl _)
  | int _ => cases h; simp only [RD] at r; rw [r]; exact .base (.int _)
  | str _ => cases h; simp only [RD] at r; rw [r.1]; exact .base (.str _)
  | tup ds =>
    cases h
    simp only [RD] at r
    obtain ⟨z, a, vs, e, t, g⟩ := r
    rw [e]
    rcases t with (t | ⟨o, t⟩) | ⟨o, its, n, k, hc, hd, hs, rv⟩
    · exact .base (.tup t)
    · exact .fTuple t
    · exact .kTuple k hc
  | rol ds =>
    cases h
    simp only [RD] at r
    obtain ⟨z, a, vs, e, t, g⟩ := r
    rw [e]
    rcases t with ⟨o, t⟩ | t
    · exact .base (.frz t)
    · obtain ⟨o, its, n, k, hc, hd, hs, rv⟩ := t
      exact .kList k hc
  | loc l =>
    unfold tyOfD at h
    dsimp only at h
    cases e1 : S[l]? with
    | none => rw [e1] at h; cases h
    | some o =>
      cases o with
      | lst xs =>
        rw [e1] at h; cases h
        obtain ⟨a, vs, e, _, t, g, _⟩ := rs.lst e1 r
        rw [e]; exact .base (.lst t)
      | dct xs =>
        rw [e1] at h; cases h
        obtain ⟨a, vs, e, _, t, g, _⟩ := rs.dct e1 r
        rw [e]; exact .base (.dK t)
      | _ => rw [e1] at h; cases h
def plainTy : ML.Ty → Bool
  | .cls _ => false
  | _ => true
def isT (n : String) (t : ML.Ty) : Bool := n == tyN t || (n == "bool" && tyN t == "int")
theorem kit_tab : ∀ n ∈ ["NoneType", "bool", "int", "str", "tuple", "list", "dict"], ∀ t ∈ [ML.Ty.str, ML.Ty.int, ML.Ty.bool, ML.Ty.tup], L2.kitB n (tyN t) = some (isT n t) := by decide +kernel
theorem tyIs_eq {sub : Nat → Nat → Bool} {S : ML.St} {d : ML.D} {t : ML.Ty} {b : Bool} (hp : plainTy t = true) (h : ML.tyIs sub S d t = some b) : ∃ n, tyOfD S d = some n ∧ b = isT n t ∧ n ∈ ["NoneType", "bool", "int", "str", "tuple", "list", "dict"] := by
  cases t with
  | cls k => cases hp
  | _ =>
    cases d with
    | loc l =>
      unfold ML.tyIs at h
      unfold tyOfD
      dsimp only at h ⊢
      cases e1 : S[l]? with
      | none => rw [e1] at h; cases h
      | some o =>
        cases o with
        | lst xs => rw [e1] at h; cases h; exact ⟨_, rfl, by decide, by decide⟩
        | dct xs => rw [e1] at h; cases h; exact ⟨_, rfl, by decide, by decide⟩
        | _ => rw [e1] at h; cases h
    | _ => cases h; exact ⟨_, rfl, by decide, by decide⟩
/-- one type -/
def rIs1 (c : Cn) (sub : Nat → Nat → Bool) (t : ML.Ty) : List V → Hp → VK → Prop := fun xs H Q => ∃ ρ S d x b, xs = [x, .ty (tyN t)] ∧ RS c ρ H S ∧ RD c ρ H d x ∧ ML.tyIs sub S d t = some b ∧ Q (.bl b) H
theorem mem_plain {t : ML.Ty} (h : plainTy t = true) : t ∈ [ML.Ty.str, ML.Ty.int, ML.Ty.bool, ML.Ty.tup] := by
  cases t <;> first | (cases h; done) | simp
theorem is_1 {sub : Nat → Nat → Bool} {t : ML.Ty} (hK : X.K = c.K) (hp : plainTy t = true) : CallR X (.builtin "isinstance") (rIs1 c sub t) := by
  intro pins s σ H xs us Q I r h
  obtain ⟨ρ, S, d, x, b, ex, rs, rd, e, q⟩ := h
  obtain ⟨n, e1, e2, e3⟩ := tyIs_eq hp e
  subst e2
  exact L2.call_isi pins s σ H xs us Q I r ⟨x, .ty (tyN t), .type n, .type (tyN t), isT n t, ex, .ty _, by rw [hK]; exact tyX_of rs rd e1, L2.kit_ty (kit_tab n e3 t (mem_plain hp)), q⟩
theorem e_is1 {sub : Nat → Nat → Bool} {t : ML.Ty} {fn e2 : Expr} (hK : X.K = c.K) (ha : PE X a (tE c W fa)) (h2 : PE X e2 (L2.tC (.ty (tyN t)))) (hs : ∀ x p, a ≠ .Starred x p) (hs2 : ∀ x p, e2 ≠ .Starred x p)
    (hc : ∀ tt, PA X [a, e2] tt → PE X (.Call fn [a, e2] [] pos) (L2.tCB (rIs1 c sub t) tt)) :
    PE X (.Call fn [a, e2] [] pos) (tE c W fun σ S => (fa σ S).bnd fun x S => ML.okO ((ML.tyAny sub S x [t]).map .bl) S) :=
  PE.mono (hc _ (L2.pa_cons ha (L2.pa_cons h2 L2.pa_nil (starEach_cons hs2)) (starEach_cons hs))) fun τ H Q h => by
  obtain ⟨ρ, S, σ, rs, re, p⟩ := h
  refine ⟨ρ, S, σ, rs, re, p.bnd.mono fun d S1 ρ1 H1 f1 rs1 p1 v r => ?_⟩
  obtain ⟨d', e, p2⟩ := p1.okO
  simp only [ML.tyAny] at e
  cases e1 : ML.tyIs sub S1 d t with
  | none => rw [e1] at e; cases e
  | some b =>
    rw [e1] at e
    have : d' = .bl b := by simpa using e.symm
    subst this
    exact ⟨ρ1, S1, d, v, b, rfl, rs1, r, e1, p2.ok rs1 _ (by simp [RD])⟩
/-- several types: a tuple just laid -/
def rIsN (c : Cn) (sub : Nat → Nat → Bool) (ts : List ML.Ty) : List V → Hp → VK → Prop := fun xs H Q => ∃ ρ S d x b tp, xs = [x, .ref tp] ∧ H tp = some (.tup (ts.map fun t => V.ty (tyN t))) ∧ RS c ρ H S ∧ RD c ρ H d x ∧ ML.tyAny sub S d ts = some b ∧ Q (.bl b) H
theorem kitAny_of {sub : Nat → Nat → Bool} {S : ML.St} {d : ML.D} : ∀ {ts : List ML.Ty} {b : Bool}, ts.all plainTy = true → ML.tyAny sub S d ts = some b → ∀ n, tyOfD S d = some n → PySem.W.kitAny c.K (.type n) (ts.map fun t => Value.type (tyN t)) = some b
  | [], b, _, h, n, hn => by cases h; exact L2.kitAny_nil
  | t :: ts, b, hp, h, n, hn => by
    simp only [List.all_cons, Bool.and_eq_true] at hp
    simp only [ML.tyAny] at h
    cases e1 : ML.tyIs sub S d t with
    | none => rw [e1] at h; cases h
    | some b1 =>
      rw [e1] at h
      cases e2 : ML.tyAny sub S d ts with
      | none => rw [e2] at h; cases h
      | some b2 =>
        rw [e2] at h
        have hb : b = (b1 || b2) := by simpa using h.symm
        subst hb
        obtain ⟨m, q1, q2, q3⟩ := tyIs_eq hp.1 e1
        rw [hn] at q1
        cases q1
        subst q2
        refine L2.kitAny_cons (L2.kit_ty (kit_tab n q3 t (mem_plain hp.1))) (fun h0 => ?_) (fun h0 => by rw [h0]; rfl)
        rw [h0, Bool.false_or]
        exact kitAny_of hp.2 e2 n hn
theorem paired_ty : ∀ ts : List ML.Ty, Paired L2.ClsV (ts.map fun t => V.ty (tyN t)) (ts.map fun t => Value.type (tyN t))
  | [] => .nil
  | t :: ts => .cons (.ty _) (paired_ty ts)
theorem tyAny_ty {sub : Nat → Nat → Bool} {S : ML.St} {d : ML.D} {t : ML.Ty} {ts : List ML.Ty} {b : Bool} (hp : plainTy t = true) (h : ML.tyAny sub S d (t :: ts) = some b) : ∃ n, tyOfD S d = some n := by
  simp only [ML.tyAny] at h
  cases e1 : ML.tyIs sub S d t with
  | none => rw [e1] at h; cases h
  | some b1 => obtain ⟨n, q1, _⟩ := tyIs_eq hp e1; exact ⟨n, q1⟩
theorem is_N {sub : Nat → Nat → Bool} {t : ML.Ty} {ts : List ML.Ty} (hK : X.K = c.K) (hp : (t :: ts).all plainTy = true) : CallR X (.builtin "isinstance") (rIsN c sub (t :: ts)) := by
  intro pins s σ H xs us Q I r h
  obtain ⟨ρ, S, d, x, b, tp, ex, eH, rs, rd, e, q⟩ := h
  have hp1 : plainTy t = true := by simp only [List.all_cons, Bool.and_eq_true] at hp; exact hp.1
  obtain ⟨n, e1⟩ := tyAny_ty hp1 e
  exact L2.call_isiT pins s σ H xs us Q I r ⟨x, tp, _, .type n, _, b, ex, eH, paired_ty (t :: ts), by rw [hK]; exact tyX_of rs rd e1, by rw [hK]; exact kitAny_of hp e n e1, q⟩
def tTys : List ML.Ty → TA
  | [] => L2.tNil
  | t :: ts => L2.tCons (L2.tC (.ty (tyN t))) (tTys ts)
theorem tTys_run : ∀ (ts : List ML.Ty) (τ : L2.St) (H : Hp) (Q : List V → Hp → Prop), Q (ts.map fun t => V.ty (tyN t)) H → tTys ts τ H Q
  | [], τ, H, Q, h => h
  | t :: ts, τ, H, Q, h => tTys_run ts τ H (fun xs H' => Q (.ty (tyN t) :: xs) H') h
theorem e_isN {sub : Nat → Nat → Bool} {t : ML.Ty} {ts : List ML.Ty} {fn : Expr} (hz : (t :: ts).length ≤ 1000) (ha : PE X a (tE c W fa)) (h2 : PA X es (tTys (t :: ts))) (hs : ∀ x p, a ≠ .Starred x p)
    (hc : ∀ tt, PA X [a, .Tuple es kk tpos] tt → PE X (.Call fn [a, .Tuple es kk tpos] [] pos) (L2.tCB (rIsN c sub (t :: ts)) tt)) :
    PE X (.Call fn [a, .Tuple es kk tpos] [] pos) (tE c W fun σ S => (fa σ S).bnd fun x S => ML.okO ((ML.tyAny sub S x (t :: ts)).map .bl) S) :=
  PE.mono (hc _ (L2.pa_cons ha (L2.pa_cons (L2.pe_tup h2) L2.pa_nil (starEach_cons (fun _ _ z => nomatch z))) (starEach_cons hs))) fun τ H Q h => by
  obtain ⟨ρ, S, σ, rs, re, p⟩ := h
  refine ⟨ρ, S, σ, rs, re, p.bnd.mono fun d S1 ρ1 H1 f1 rs1 p1 v r => ?_⟩
  unfold L2.tCons L2.tTup
  dsimp only
  apply tTys_run (t :: ts) τ H1
  refine ⟨by rw [List.length_map]; exact Nat.le_trans hz (by decide), fun q hq => ?_⟩
  obtain ⟨d', e, p2⟩ := p1.okO
  cases e1 : ML.tyAny sub S1 d (t :: ts) with
  | none => rw [e1] at e; cases e
  | some b =>
    rw [e1] at e
    have : d' = .bl b := by simpa using e.symm
    subst this
    exact ⟨ρ1, S1, d, v, b, q, rfl, upd_same, rs1.new hq, RD.mono rs1 (Fr.new hq) d v r, e1, p2 ρ1 _ (Fr.new hq) (rs1.new hq) _ (by simp [RD])⟩
/-! ### methods -/
def rMt (c : Cn) (f : ML.D → List ML.D → ML.St → ML.Out ML.D) : V → List V → Hp → VK → Prop := fun x xs H Q => ∃ ρ S w d ds, RS c ρ H S ∧ RD c ρ H d x ∧ RDs c ρ H ds xs ∧ Pst c w ρ H (f d ds S) fun d S' ρ' H' => ∀ v, RD c ρ' H' d v → Q v H'
def mtTy : ML.Mth → String
  | .append | .extend | .pop | .pop1 | .count | .insert => "list"
  | .get | .setdefault | .update | .items => "dict"
  | .split | .lstrip | .rstrip | .join | .replace => "str"
theorem tyV_of {ρ : List Addr} {H : Hp} {S : ML.St} {d : ML.D} {v : V} {m : ML.Mth} (rs : RS c ρ H S) (r : RD c ρ H d v) (h : ML.mOk m d S = true) : L2.tyV c.K (mtTy m) v H := by
  have A : ∀ l : Nat, d = .loc l → (ML.lstAt S l).isSome = true → L2.tyV c.K "list" v H := fun l e h' => by
    subst e
    cases e1 : ML.lstAt S l with
    | none => rw [e1] at h'; cases h'
    | some xs =>
      obtain ⟨a, vs, e, _, t, _⟩ := rs.lst (lstAt_of e1) r
      rw [e]; exact .inl ⟨rfl, vs, .inl (.inl t)⟩
  have B : ∀ l : Nat, d = .loc l → (match S[l]? with | some (.dct _) => true | _ => false) = true → L2.tyV c.K "dict" v H := fun l e h' => by
    subst e
    cases e1 : S[l]? with
    | none => rw [e1] at h'; cases h'
    | some o =>
      cases o with
      | dct kvs =>
        obtain ⟨a, vs, e, _, t, _⟩ := rs.dct e1 r
        rw [e]; exact .inr (.inr (.inl ⟨rfl, .inl ⟨vs, t⟩⟩))
      | _ => rw [e1] at h'; cases h'
  have C : ∀ t : ML.Sg, d = .str t → L2.tyV c.K "str" v H := fun t e => by
    subst e
    simp only [RD] at r
    rw [r.1]; rfl
  cases m <;> cases d <;> first | (cases h; done) | exact A _ rfl h | exact B _ rfl h | exact C _ rfl
theorem e_mth {m : ML.Mth} {o : Expr} {fo : ML.Env → ML.St → ML.Out ML.D} (hK : X.K = c.K) (ho : PE X o (tE c W fo)) (ha : PA X es (tA c W fl)) {fn : Expr}
    (hc : ∀ to t, PE X o to → PA X es t → PE X (.Call fn es [] cpos) (L2.tBM X.K (mtTy m) (rMt c (ML.mthD m)) to t)) :
    PE X (.Call fn es [] cpos) (tE c W fun σ S => (fo σ S).bnd fun x S => if ML.mOk m x S then (fl σ S).bnd fun ds S => ML.mthD m x ds S else .bad) := PE.mono (hc _ _ ho ha) fun τ H Q h => by
  obtain ⟨ρ, S, σ, rs, re, p⟩ := h
  refine ⟨ρ, S, σ, rs, re, p.bnd.mono fun d S1 ρ1 H1 f1 rs1 p1 v r => ?_⟩
  by_cases hm : ML.mOk m d S1 = true
  · rw [if_pos hm] at p1
    refine ⟨by rw [hK]; exact tyV_of rs1 r hm, ρ1, S1, σ, rs1, re.mono rs f1, p1.bnd.mono fun ds S2 ρ2 H2 f2 rs2 p2 vs rv => ?_⟩
    exact ⟨ρ2, S2, _, d, ds, rs2, RD.mono rs1 f2 d v r, rv, p2⟩
  · rw [if_neg hm] at p1; exact p1.elim
theorem lst_set {ρ : List Addr} {H : Hp} {S : ML.St} {w : XW} {l : Nat} {a : Addr} {xs ys : List ML.D} {vs ws : List V} {d : ML.D} {k : ML.D → ML.St → List Addr → Hp → Prop} (rs : RS c ρ H S) (ha : ρ[l]? = some a) (hr : RDs c ρ H ys ws) (hz : ys.length ≤ sizeLine)
    (p : Pst c w ρ H (.ok d (S.set l (.lst ys))) k) : k d (S.set l (.lst ys)) ρ (upd H a (.lst ws)) := by
  have hm : a ∈ ρ := List.mem_of_getElem? ha
  exact p ρ _ (Fr.wr hm) (rs.wr ha ⟨hz, ws, upd_same, hr.mono rs (Fr.wr hm)⟩)
theorem m_append : MtR X "list.append" (rMt c (ML.mthD .append)) := by
  intro pins s σ H x xs v us Q I rx rv h
  obtain ⟨ρ, S, w, d, ds, rs, r, rds, p⟩ := h
  cases d with
  | loc l =>
    match ds, p with
    | [], p => exact p.elim
    | [y], p =>
      unfold ML.mthD at p
      dsimp only at p
      obtain ⟨yv, ey, ry⟩ := rds.one
      cases e1 : S[l]? with
      | none => rw [e1] at p; exact p.elim
      | some o =>
        cases o with
        | lst zs =>
          rw [e1] at p
          dsimp only at p
          by_cases hz : zs.length < ML.lim
          · rw [if_pos hz] at p
            obtain ⟨a, vs, e, ea, t, g, _⟩ := rs.lst e1 r
            have hz2 : zs.length < sizeLine := Nat.lt_of_lt_of_le hz (by decide)
            refine L2.mt_append pins s σ H x xs v us Q I rx rv ⟨a, vs, yv, e, ey, t, by rw [← g.len]; exact hz2, ?_⟩
            exact lst_set (xs := zs) (vs := vs) rs ea (g.app (by simp only [RDs]; exact ⟨yv, [], rfl, ry, rfl⟩)) (by rw [List.length_append]; exact hz2) p _ (by simp [RD])
          · rw [if_neg hz] at p; exact p.elim
        | _ => rw [e1] at p; exact p.elim
    | _ :: _ :: _, p => exact p.elim
  | _ => exact p.elim
theorem m_pop : MtR X "list.pop" (rMt c (ML.mthD .pop)) := by
  intro pins s σ H x xs v us Q I rx rv h
  obtain ⟨ρ, S, w, d, ds, rs, r, rds, p⟩ := h
  cases d with
  | loc l =>
    match ds, p with
    | [], p =>
      unfold ML.mthD at p
      dsimp only at p
      simp only [RDs] at rds
      cases e1 : S[l]? with
      | none => rw [e1] at p; exact p.elim
      | some o =>
        cases o with
        | lst zs =>
          rw [e1] at p
          dsimp only at p
          cases e2 : zs[zs.length - 1]? with
          | none => rw [e2] at p; exact p.elim
          | some y =>
            rw [e2] at p
            obtain ⟨a, vs, e, ea, t, g, z⟩ := rs.lst e1 r
            obtain ⟨yv, ey, ry⟩ := g.get e2
            refine L2.mt_pop pins s σ H x xs v us Q I rx rv ⟨a, vs, yv, e, rds, t, by rw [← g.len]; exact ey, ?_⟩
            have gd : RDs c ρ H zs.dropLast vs.dropLast := by
              rw [List.dropLast_eq_take, List.dropLast_eq_take, ← g.len]
              exact g.take _
            have hm : a ∈ ρ := List.mem_of_getElem? ea
            exact lst_set (xs := zs) (vs := vs) rs ea gd (by rw [List.length_dropLast]; omega) p _ (RD.mono rs (Fr.wr hm) _ _ ry)
        | _ => rw [e1] at p; exact p.elim
    | _ :: _, p => exact p.elim
  | _ => exact p.elim
theorem dct_set {ρ : List Addr} {H : Hp} {S : ML.St} {w : XW} {l : Nat} {a : Addr} {kvs : List (ML.D × ML.D)} {ws : List (L2.Key × V)} {d : ML.D} {k : ML.D → ML.St → List Addr → Hp → Prop} (rs : RS c ρ H S) (ha : ρ[l]? = some a) (hr : RKs c ρ H kvs ws) (nd : (kvs.map (·.1)).Nodup)
    (p : Pst c w ρ H (.ok d (S.set l (.dct kvs))) k) : k d (S.set l (.dct kvs)) ρ (upd H a (.dK ws)) := by
  have hm : a ∈ ρ := List.mem_of_getElem? ha
  exact p ρ _ (Fr.wr hm) (rs.wr ha ⟨ws, upd_same, nd, hr.mono rs (Fr.wr hm)⟩)
theorem m_get (hu : X.A.units + 1 < cLine) : MtR X "dict.get" (rMt c (ML.mthD .get)) := by
  intro pins s σ H x xs v us Q I rx rv h
  obtain ⟨ρ, S, w, d, ds, rs, r, rds, p⟩ := h
  cases d with
  | loc l =>
    match ds, p with
    | [], p => exact p.elim
    | [_], p => exact p.elim
    | [y, z], p =>
      unfold ML.mthD at p
      dsimp only at p
      obtain ⟨yv, zv, ey, ry, rz⟩ := rds.two
      subst ey
      cases e1 : S[l]? with
      | none => rw [e1] at p; exact p.elim
      | some o =>
        cases o with
        | dct kvs =>
          rw [e1] at p
          dsimp only at p
          by_cases hk : ML.keyOk y = true
          · rw [if_pos hk] at p
            obtain ⟨a, vs, e, ea, t, nd, g⟩ := rs.dct e1 r
            obtain ⟨K, hK'⟩ := kk_of hk
            obtain ⟨ev, _⟩ := kk_V hK' ry
            subst e ev
            obtain rfl : v = Value.ref a := rx
            cases rv with
            | cons r1 rv =>
              cases rv with
              | cons r2 rv =>
                cases rv
                refine L2.d_get2 hu I (L2.DGet.k t) r1 r2 fun w' s' I' r' => ⟨_, H, I', r', ?_⟩
                refine p.ok rs _ ?_
                rcases g.look hK' with ⟨h1, h2⟩ | ⟨d', z', h1, h2, rz'⟩
                · rw [h1, h2]; exact rz
                · rw [h1, h2]; exact rz'
          · rw [if_neg hk] at p; exact p.elim
        | _ => rw [e1] at p; exact p.elim
    | _ :: _ :: _ :: _, p => exact p.elim
  | _ => exact p.elim
open L2 in
theorem mt_setdefault : MtR X "dict.setdefault" rSetd := by
  intro pins s σ H x xs w us Q I rx rv h
  obtain ⟨a, kvs, k, v, el, rfl, ea, hl, w1, w2⟩ := h
  subst el
  obtain rfl : w = Value.ref a := rx
  cases rv with
  | cons ry rv =>
    cases rv with
    | cons rd rv =>
      cases rv
      obtain ⟨z, hd, vs0, rel, dd⟩ := dk_of I.hok ea
      have hz : vs0.length ≤ sizeLine := by rw [← rel.length]; exact z
      refine call_meetsIn F.slot_dict_setdefault dd.typeIs F.entry_dict_setdefault (F.args_dict_setdefault_3 _ _ _) (kt_meets_setdefault (mixKind X.prog X.w) _ (kV_is ry) hd _) ⟨vs0, dd, hz, fun u hu => ?_, fun hn h' dd' hs => ?_⟩
      · have rr := rel.val k
        rw [hu] at rr
        cases hv : valV kvs k with
        | none => rw [hv] at rr; exact False.elim rr
        | some x =>
          rw [hv] at rr
          exact (⟨x, H, I.tok _, rr, w1 x hv⟩ : EP X pins σ Q u _)
      · have rr := rel.val k
        rw [hn] at rr
        cases hv : valV kvs k with
        | some x => rw [hv] at rr; exact False.elim rr
        | none =>
          have hl2 : (putK kvs k v).length ≤ sizeLine := by have := length_putK kvs k v; omega
          exact (⟨v, _, d_write (t' := s.toks + 1) I (by rw [ea]; exact True.intro) hs (let ⟨q, _, _, hq, _⟩ := dd'; ⟨q, hq⟩) (dk_new hl2 hd (rel.put k rd) dd'), rd, w2 hv⟩ : EP X pins σ Q _ _)
theorem m_setdefault : MtR X "dict.setdefault" (rMt c (ML.mthD .setdefault)) := by
  intro pins s σ H x xs v us Q I rx rv h
  obtain ⟨ρ, S, w, d, ds, rs, r, rds, p⟩ := h
  cases d with
  | loc l =>
    match ds, p with
    | [], p => exact p.elim
    | [_], p => exact p.elim
    | [y, z], p =>
      unfold ML.mthD at p
      dsimp only at p
      obtain ⟨yv, zv, ey, ry, rz⟩ := rds.two
      subst ey
      cases e1 : S[l]? with
      | none => rw [e1] at p; exact p.elim
      | some o =>
        cases o with
        | dct kvs =>
          rw [e1] at p
          dsimp only at p
          by_cases hk : (ML.keyOk y && decide (kvs.length < ML.lim)) = true
          · rw [if_pos hk] at p
            simp only [Bool.and_eq_true, decide_eq_true_eq] at hk
            obtain ⟨a, vs, e, ea, t, nd, g⟩ := rs.dct e1 r
            obtain ⟨K, hK'⟩ := kk_of hk.1
            obtain ⟨ev, sk⟩ := kk_V hK' ry
            subst ev
            have hl : vs.length < sizeLine := by rw [← g.len]; exact Nat.lt_of_lt_of_le hk.2 (by decide)
            have hm : a ∈ ρ := List.mem_of_getElem? ea
            refine mt_setdefault pins s σ H x _ v us Q I rx rv ⟨a, vs, K, zv, e, rfl, t, hl, fun u hu => ?_, fun hn => ?_⟩
            · rcases g.look hK' with ⟨h1, h2⟩ | ⟨d', z', h1, h2, rz'⟩
              · rw [h2] at hu; cases hu
              · rw [h1] at p
                rw [h2] at hu; cases hu
                exact Pst.ok p rs _ rz'
            · rcases g.look hK' with ⟨h1, h2⟩ | ⟨d', z', h1, h2, rz'⟩
              · rw [h1] at p
                have hno : y ∉ kvs.map (·.1) := fun hy => by
                  have := (RKs.mem (k := y)).mp hy
                  rw [h1] at this; cases this
                have q := g.put nd hK' sk rz
                rw [putD_new hno] at q
                exact dct_set rs ea q.1 q.2 p _ (RD.mono rs (Fr.wr hm) _ _ rz)
              · rw [h2] at hn; cases hn
          · rw [if_neg hk] at p; exact p.elim
        | _ => rw [e1] at p; exact p.elim
    | _ :: _ :: _ :: _, p => exact p.elim
  | _ => exact p.elim
end
end MS
end
section
set_option linter.all false
set_option maxRecDepth 100000
set_option maxHeartbeats 1000000
/-! MS16: lists compared, in a list, extend, join, an empty dict. -/
namespace MS
open PySem
open L2 (V Hp HO SqL SqT Rd upd upd_same upd_ne RelV Vals TE TA TT TS TI TG TGs VK XK WX Cx Inv PE PT PW PA PS PSs PI PG PGs OpR It Turn PIE PTs CallR MtR Gl)
section
variable {X : Cx} {c : Cn} {W : WX} {a b e tg : Expr} {es elts : List Expr} {fa fb fd : ML.Env → ML.St → ML.Out ML.D} {p pos tpos apos cpos : Pos} {kk : Nat} {f g : ML.Env → ML.St → ML.Out ML.Li} {fl : ML.Env → ML.St → ML.Out (List ML.D)}
theorem rdbl {ρ : List Addr} {H : Hp} {k : Bool} : RD c ρ H (.bl k) (.bl k) := by simp [RD]
def rCL (c : Cn) (ne : Bool) : L2.R2 := fun x y H Q => ∃ ρ S w p q a b, x = .ref a ∧ y = .ref b ∧ RS c ρ H S ∧ Lk c p ρ H a ∧ Lk c q ρ H b ∧ p.b = true ∧ q.b = true ∧ p.g.ok S = true ∧ q.g.ok S = true ∧
  Pst c w ρ H (ML.cmpLD ne p.xs q.xs S) fun d S' ρ' H' => ∀ v, RD c ρ' H' d v → ∃ k, v = .bl k ∧ Q (.bl k) H'
theorem op_cL {op : CmpOp} {ne : Bool} (hK : X.K = c.K) (hu : X.A.units + 64 < cLine)
    (h1 : ∀ (s : Shared) (l b : Addr) (i1 i2 : Array Value) (Q : Value → Shared → Prop), s.heap.IsList l i1 → s.heap.IsList b i2 → (i1.size != i2.size) = true → Q (.bool ne) s → wpAny (model X.prog X.w) X.A (compareOp op (.ref l) (.ref b)) Q X.xe s)
    (h2 : OpR X (compareOp op) (fun x y H Q => ∃ d e, L2.Dp X.K H x d ∧ L2.Dp X.K H y e ∧ SeqAt.shaped d = true ∧ SeqAt.shaped e = true ∧ Q (.bl (if ne then !PyData.eqv d e else PyData.eqv d e)) H)) : OpR X (compareOp op) (rCL c ne) := by
  intro pins s σ H x y v u Q I rx ry h
  obtain ⟨ρ, S, w, q1, q2, a, b, rfl, rfl, rs, lk1, lk2, b1, b2, g1, g2, p⟩ := h
  obtain ⟨vs, r1, k1, _, _, z1⟩ := lk1.at_ rs g1
  obtain ⟨ws, r2, k2, _, _, z2⟩ := lk2.at_ rs g2
  have k1 := k1 b1
  have k2 := k2 b2
  rw [← hK] at k1 k2
  unfold ML.cmpLD at p
  by_cases hc : (q2.xs.isEmpty || q1.xs.isEmpty) = true
  · rw [if_pos hc] at p
    obtain ⟨k, e, q⟩ := p.ok rs _ rdbl
    injection e with e
    subst e
    by_cases hl : vs.length = ws.length
    · have h0 : vs = [] ∧ ws = [] ∧ q1.xs = [] ∧ q2.xs = [] := by
        have l1 := r1.len
        have l2 := r2.len
        rw [Bool.or_eq_true, List.isEmpty_iff, List.isEmpty_iff] at hc
        rcases hc with hc | hc
        · rw [hc] at l2
          have a1 : ws = [] := List.eq_nil_of_length_eq_zero (by simpa using l2.symm)
          have a2 : vs = [] := List.eq_nil_of_length_eq_zero (by rw [hl, a1]; rfl)
          exact ⟨a2, a1, List.eq_nil_of_length_eq_zero (by rw [l1, a2]; rfl), hc⟩
        · rw [hc] at l1
          have a2 : vs = [] := List.eq_nil_of_length_eq_zero (by simpa using l1.symm)
          have a1 : ws = [] := List.eq_nil_of_length_eq_zero (by rw [← hl, a2]; rfl)
          exact ⟨a2, a1, hc, List.eq_nil_of_length_eq_zero (by rw [l2, a1]; rfl)⟩
      obtain ⟨e1, e2, e3, e4⟩ := h0
      subst e1 e2
      refine h2 pins s σ H _ _ v u Q I rx ry ⟨.list [], .list [], .lst k1 .nil, .lst k2 .nil, by decide, by decide, ?_⟩
      rw [e3, e4] at q
      have hv : PyData.eqv (.list []) (.list []) = true := by decide
      rw [hv]
      cases ne <;> exact q
    · obtain ⟨its, rv, hl1, _⟩ := I.list k1
      obtain ⟨its2, rv2, hl2, _⟩ := I.list k2
      obtain rfl : v = Value.ref a := rx
      obtain rfl : u = Value.ref b := ry
      refine h1 s a b its.toArray its2.toArray _ hl1.isList hl2.isList ?_ ⟨.bl ne, H, I, rfl, ?_⟩
      · have e1 := rv.length
        have e2 := rv2.length
        simp only [List.size_toArray, bne_iff_ne, ne_eq]
        omega
      · have hb : (q1.xs.isEmpty && q2.xs.isEmpty) = false := by
          cases hh : q1.xs.isEmpty && q2.xs.isEmpty with
          | false => rfl
          | true =>
            simp only [Bool.and_eq_true, List.isEmpty_iff] at hh
            have l1 := r1.len
            have l2 := r2.len
            rw [hh.1] at l1
            rw [hh.2] at l2
            exact absurd (l1.symm.trans l2) hl
        rw [hb] at q
        cases ne <;> exact q
  · rw [if_neg hc] at p
    by_cases hd : (ML.D.unds 0 q1.xs && ML.D.unds 0 q2.xs && ML.D.noRs q1.xs && ML.D.noRs q2.xs && decide (ML.D.depths q1.xs < 64) && decide (ML.D.depths q2.xs < 64)) = true
    · rw [if_pos hd] at p
      simp only [Bool.and_eq_true, decide_eq_true_eq] at hd
      obtain ⟨⟨⟨⟨⟨d1, d2⟩, d3⟩, d4⟩, d5⟩, d6⟩ := hd
      obtain ⟨k, e, q⟩ := p.ok rs _ rdbl
      injection e with e
      subst e
      obtain ⟨a1, a2⟩ := r1.dp _ _ d1 d3
      obtain ⟨c1, c2⟩ := r2.dp _ _ d2 d4
      have t1 := toPys_depth q1.xs
      have t2 := toPys_depth q2.xs
      refine h2 pins s σ H _ _ v u Q I rx ry ⟨.list (toPys q1.xs), .list (toPys q2.xs), .lst k1 (by rw [hK]; exact a1), .lst k2 (by rw [hK]; exact c1), ?_, ?_, ?_⟩
      · unfold SeqAt.shaped
        simp only [Bool.and_eq_true, decide_eq_true_eq, PyData.canLay0, PyData.depth]
        exact ⟨a2, decide_eq_true (by omega)⟩
      · unfold SeqAt.shaped
        simp only [Bool.and_eq_true, decide_eq_true_eq, PyData.canLay0, PyData.depth]
        exact ⟨c2, decide_eq_true (by omega)⟩
      · have hv : PyData.eqv (.list (toPys q1.xs)) (.list (toPys q2.xs)) = ML.D.eqps q1.xs q2.xs := by
          rw [← toPys_eqv q1.xs q2.xs d1 d3 d2 d4]
          simp [PyData.eqv]
        rw [hv]
        cases ne <;> exact q
    · rw [if_neg hd] at p; exact p.elim
theorem op_eqL (hK : X.K = c.K) (hu : X.A.units + 64 < cLine) : OpR X (compareOp .Eq) (rCL c false) :=
  op_cL hK hu (fun s l b i1 i2 Q a1 a2 a3 a4 => SeqAt.eq_list_lengthsAt a1 a2 a3 (by omega) a4) (L2.op_eqD hu)
theorem op_neL (hK : X.K = c.K) (hu : X.A.units + 64 < cLine) : OpR X (compareOp .NotEq) (rCL c true) :=
  op_cL hK hu (fun s l b i1 i2 Q a1 a2 a3 a4 => SeqAt.RcNeAt.lists_lengths a1 a2 a3 (by omega) X.prog X.w X.xe Q a4) (L2.op_neD hu)
theorem cL_pre {ρ : List Addr} {H : Hp} {S : ML.St} {w : XW} {ne : Bool} {q1 q2 : ML.Li} {k : ML.D → ML.St → List Addr → Hp → Prop} {a b : Addr} (rs : RS c ρ H S) (lk1 : Lk c q1 ρ H a) (lk2 : Lk c q2 ρ H b) (g2 : q2.g.ok S = true)
    (p : Pst c w ρ H (if q1.b && q2.b && q1.g.ok S then ML.cmpLD ne q1.xs q2.xs S else .bad) k) : q1.b = true ∧ q2.b = true ∧ q1.g.ok S = true ∧ Pst c w ρ H (ML.cmpLD ne q1.xs q2.xs S) k := by
  by_cases h : (q1.b && q2.b && q1.g.ok S) = true
  · rw [if_pos h] at p
    simp only [Bool.and_eq_true] at h
    exact ⟨h.1.1, h.1.2, h.2, p⟩
  · rw [if_neg h] at p; exact p.elim
theorem cmpLD_bl {ne : Bool} {xs ys : List ML.D} {S S' : ML.St} {d : ML.D} (h : ML.cmpLD ne xs ys S = .ok d S') : ∃ k, d = .bl k := by
  unfold ML.cmpLD at h
  split at h
  · cases h; exact ⟨_, rfl⟩
  · split at h
    · cases h; exact ⟨_, rfl⟩
    · cases h
theorem e_cmpL {op : CmpOp} {ne : Bool} (ho : OpR X (compareOp op) (rCL c ne)) (hm : behindInMarks op b = false) (ha : PE X a (tL c W f)) (hb : PE X b (tL c W g)) (hgd : ∀ σ S q S', g σ S = .ok q S' → q.g.ok S' = true) :
    PE X (.Compare a [op] [b] pos) (tE c W fun σ S => (f σ S).bnd fun p S => (g σ S).bnd fun q S => if p.b && q.b && p.g.ok S then ML.cmpLD ne p.xs q.xs S else .bad) := PE.mono (L2.pe_cmpR ho ha hb hm) fun τ H Q h => by
  obtain ⟨ρ, S, σ, rs, re, p⟩ := h
  refine ⟨ρ, S, σ, rs, re, p.bnd.mono fun q1 S1 ρ1 H1 f1 rs1 p1 a lk1 => ?_⟩
  refine ⟨ρ1, S1, σ, rs1, re.mono rs f1, p1.bnd.monoE fun q2 S2 ρ2 H2 ee f2 rs2 p2 b lk2 => ?_⟩
  obtain ⟨b1, b2, g1, p3⟩ := cL_pre rs2 (lk1.mono rs1 f2) lk2 (hgd _ _ _ _ ee) p2
  refine ⟨ρ2, S2, _, q1, q2, a, b, rfl, rfl, rs2, lk1.mono rs1 f2, lk2, b1, b2, g1, hgd _ _ _ _ ee, p3.monoE fun d S3 ρ3 H3 e3 f3 rs3 p4 v r => ?_⟩
  obtain ⟨k, ek⟩ := cmpLD_bl e3
  subst ek
  simp only [RD] at r
  exact ⟨k, r, by rw [← r]; exact p4 v (by simp only [RD]; exact r)⟩
theorem t_cmpL {op : CmpOp} {ne : Bool} (ho : OpR X (compareOp op) (rCL c ne)) (hm : behindInMarks op b = false) (ha : PE X a (tL c W f)) (hb : PE X b (tL c W g)) (hgd : ∀ σ S q S', g σ S = .ok q S' → q.g.ok S' = true) :
    PT X (.Compare a [op] [b] pos) (tT c W (tst fun σ S => (f σ S).bnd fun p S => (g σ S).bnd fun q S => if p.b && q.b && p.g.ok S then ML.cmpLD ne p.xs q.xs S else .bad)) := PT.mono (L2.pt_cmpR ho ha hb hm) fun τ H Q h => by
  obtain ⟨ρ, S, σ, rs, re, p⟩ := h
  unfold tst at p
  refine ⟨ρ, S, σ, rs, re, p.bnd.bnd.mono fun q1 S1 ρ1 H1 f1 rs1 p1 a lk1 => ?_⟩
  refine ⟨ρ1, S1, σ, rs1, re.mono rs f1, p1.bnd.monoE fun q2 S2 ρ2 H2 ee f2 rs2 p2 b lk2 => ?_⟩
  obtain ⟨b1, b2, g1, p3⟩ := cL_pre rs2 (lk1.mono rs1 f2) lk2 (hgd _ _ _ _ ee) p2
  refine ⟨ρ2, S2, _, q1, q2, a, b, rfl, rfl, rs2, lk1.mono rs1 f2, lk2, b1, b2, g1, hgd _ _ _ _ ee, p3.monoE fun d S3 ρ3 H3 e3 f3 rs3 p4 v r => ?_⟩
  obtain ⟨k, ek⟩ := cmpLD_bl e3
  subst ek
  simp only [RD] at r
  exact ⟨k, r, k, rfl, Pst.ok p4 rs3⟩
/-! ### in a list read at once -/
def rInL (c : Cn) (neg : Bool) : L2.R2 := fun x y H Q => ∃ ρ S w d q b, y = .ref b ∧ RS c ρ H S ∧ RD c ρ H d x ∧ Lk c q ρ H b ∧ q.g.ok S = true ∧ Pst c w ρ H (ML.inItems d q.xs S) fun r S' ρ' H' => Q (.bl (if neg then !r else r)) H'
theorem op_inL (hK : X.K = c.K) : OpR X (compareOp .In) (rInL c false) := by
  intro pins s σ H x y v u Q I rx ry h
  obtain ⟨ρ, S, w, d, q, b, e, rs, rd, lk, hg, p⟩ := h
  obtain ⟨vs, r, k1, k2, _, z⟩ := lk.at_ rs hg
  obtain ⟨h1, h2, p2⟩ := p.items
  refine L2.op_in_seq pins s σ H x y v u Q I rx ry ⟨b, vs, e, ?_, rd.flat h1, r.flats h2, ?_⟩
  · cases hb : q.b with
    | true => exact .inl (by rw [hK]; exact k1 hb)
    | false => exact .inr (by rw [hK]; exact k2 hb)
  · rw [RDs.inV rd h1 r h2]
    exact p2.ok rs
theorem op_notinL (hK : X.K = c.K) : OpR X (compareOp .NotIn) (rInL c true) := by
  intro pins s σ H x y v u Q I rx ry h
  obtain ⟨ρ, S, w, d, q, b, e, rs, rd, lk, hg, p⟩ := h
  obtain ⟨vs, r, k1, k2, _, z⟩ := lk.at_ rs hg
  obtain ⟨h1, h2, p2⟩ := p.items
  refine L2.op_notIn_seq pins s σ H x y v u Q I rx ry ⟨b, vs, e, ?_, rd.flat h1, r.flats h2, ?_⟩
  · cases hb : q.b with
    | true => exact .inl (by rw [hK]; exact k1 hb)
    | false => exact .inr (by rw [hK]; exact k2 hb)
  · rw [RDs.inV rd h1 r h2]
    exact p2.ok rs
theorem e_inL {op : CmpOp} {neg : Bool} (ho : OpR X (compareOp op) (rInL c neg)) (hm : behindInMarks op b = false) (ha : PE X a (tE c W fa)) (hb : PE X b (tL c W g)) (hgd : ∀ σ S q S', g σ S = .ok q S' → q.g.ok S' = true) :
    PE X (.Compare a [op] [b] pos) (tE c W fun σ S => (fa σ S).bnd fun x S => (g σ S).bnd fun q S => (ML.inItems x q.xs S).bnd fun r S => .ok (.bl (if neg then !r else r)) S) := PE.mono (L2.pe_cmpR ho ha hb hm) fun τ H Q h => by
  obtain ⟨ρ, S, σ, rs, re, p⟩ := h
  refine ⟨ρ, S, σ, rs, re, p.bnd.mono fun d S1 ρ1 H1 f1 rs1 p1 v r => ?_⟩
  refine ⟨ρ1, S1, σ, rs1, re.mono rs f1, p1.bnd.monoE fun q2 S2 ρ2 H2 ee f2 rs2 p2 b lk2 => ?_⟩
  exact ⟨ρ2, S2, _, d, q2, b, rfl, rs2, RD.mono rs1 f2 d v r, lk2, hgd _ _ _ _ ee, p2.bnd.mono fun r S3 ρ3 H3 f3 rs3 p3 => p3.ok rs3 _ (by simp [RD])⟩
theorem t_inL {op : CmpOp} {neg : Bool} (ho : OpR X (compareOp op) (rInL c neg)) (hm : behindInMarks op b = false) (ha : PE X a (tE c W fa)) (hb : PE X b (tL c W g)) (hgd : ∀ σ S q S', g σ S = .ok q S' → q.g.ok S' = true) :
    PT X (.Compare a [op] [b] pos) (tT c W (tst fun σ S => (fa σ S).bnd fun x S => (g σ S).bnd fun q S => (ML.inItems x q.xs S).bnd fun r S => .ok (.bl (if neg then !r else r)) S)) := PT.mono (L2.pt_cmpR ho ha hb hm) fun τ H Q h => by
  obtain ⟨ρ, S, σ, rs, re, p⟩ := h
  unfold tst at p
  refine ⟨ρ, S, σ, rs, re, p.bnd.bnd.mono fun d S1 ρ1 H1 f1 rs1 p1 v r => ?_⟩
  refine ⟨ρ1, S1, σ, rs1, re.mono rs f1, p1.bnd.monoE fun q2 S2 ρ2 H2 ee f2 rs2 p2 b lk2 => ?_⟩
  exact ⟨ρ2, S2, _, d, q2, b, rfl, rs2, RD.mono rs1 f2 d v r, lk2, hgd _ _ _ _ ee, p2.bnd.mono fun r S3 ρ3 H3 f3 rs3 p3 => ⟨_, rfl, (p3.ok rs3).ok rs3⟩⟩
/-! ### extend, join -/
def rMtL (c : Cn) (m : ML.Mth) : V → List V → Hp → VK → Prop := fun x xs H Q => ∃ ρ S w d q a, RS c ρ H S ∧ RD c ρ H d x ∧ xs = [.ref a] ∧ Lk c q ρ H a ∧ q.g.ok S = true ∧ Pst c w ρ H (ML.mthLD m d q S) fun d S' ρ' H' => ∀ v, RD c ρ' H' d v → Q v H'
theorem e_mthL {m : ML.Mth} {o fn : Expr} {fo : ML.Env → ML.St → ML.Out ML.D} (hK : X.K = c.K) (ho : PE X o (tE c W fo)) (hl : PE X e (tL c W f)) (hs : ∀ x p, e ≠ .Starred x p) (hgd : ∀ σ S q S', f σ S = .ok q S' → q.g.ok S' = true)
    (hc : ∀ to t, PE X o to → PA X [e] t → PE X (.Call fn [e] [] cpos) (L2.tBM X.K (mtTy m) (rMtL c m) to t)) :
    PE X (.Call fn [e] [] cpos) (tE c W fun σ S => (fo σ S).bnd fun x S => if ML.mOk m x S then (f σ S).bnd fun q S => ML.mthLD m x q S else .bad) := PE.mono (hc _ _ ho (L2.pa_cons hl L2.pa_nil (starEach_cons hs))) fun τ H Q h => by
  obtain ⟨ρ, S, σ, rs, re, p⟩ := h
  refine ⟨ρ, S, σ, rs, re, p.bnd.mono fun d S1 ρ1 H1 f1 rs1 p1 v r => ?_⟩
  by_cases hm : ML.mOk m d S1 = true
  · rw [if_pos hm] at p1
    refine ⟨by rw [hK]; exact tyV_of rs1 r hm, ρ1, S1, σ, rs1, re.mono rs f1, p1.bnd.monoE fun q S2 ρ2 H2 ee f2 rs2 p2 a lk => ?_⟩
    exact ⟨ρ2, S2, _, d, q, a, rs2, RD.mono rs1 f2 d v r, rfl, lk, hgd _ _ _ _ ee, p2⟩
  · rw [if_neg hm] at p1; exact p1.elim
theorem m_extend : MtR X "list.extend" (rMtL c .extend) := by
  intro pins s σ H x xs v us Q I rx rv h
  obtain ⟨ρ, S, w, d, q, b, rs, r, ex, lk, hg, p⟩ := h
  obtain ⟨ws, r2, _, _, k3, z⟩ := lk.at_ rs hg
  cases d with
  | loc l =>
    unfold ML.mthLD at p
    dsimp only at p
    cases e1 : S[l]? with
    | none => rw [e1] at p; exact p.elim
    | some o =>
      cases o with
      | lst zs =>
        rw [e1] at p
        dsimp only at p
        by_cases hz : (q.b && !q.r && decide (zs.length + q.xs.length ≤ ML.lim)) = true
        · rw [if_pos hz] at p
          simp only [Bool.and_eq_true, Bool.not_eq_true', decide_eq_true_eq] at hz
          obtain ⟨a, vs, e, ea, t, g, _⟩ := rs.lst e1 r
          have hl : zs.length + q.xs.length ≤ sizeLine := lim_line hz.2
          refine L2.mt_extend pins s σ H x xs v us Q I rx rv ⟨a, b, vs, ws, e, ex, t, k3 hz.1.1 hz.1.2, by rw [← g.len, ← r2.len]; exact hl, ?_⟩
          exact lst_set (xs := zs) (vs := vs) rs ea (g.app r2) (by rw [List.length_append]; exact hl) p _ (by simp [RD])
        · rw [if_neg hz] at p; exact p.elim
      | _ => rw [e1] at p; exact p.elim
  | _ => exact p.elim
theorem strs_of {ρ : List Addr} {H : Hp} : ∀ {ds : List ML.D} {vs : List V} {bs : List ML.Sg}, RDs c ρ H ds vs → ML.strsD ds = some bs → vs = (bs.map sg).map V.str ∧ ∀ b ∈ bs, sgOk b
  | [], vs, bs, r, h => by
    simp only [RDs] at r
    cases h
    exact ⟨r, fun b hb => nomatch hb⟩
  | .str b :: ds, vs, bs, r, h => by
    simp only [RDs, RD] at r
    obtain ⟨v, l, e, e1, r2⟩ := r
    simp only [ML.strsD] at h
    cases e2 : ML.strsD ds with
    | none => rw [e2] at h; cases h
    | some cs =>
      rw [e2] at h
      cases h
      obtain ⟨h1, h2⟩ := strs_of r2 e2
      refine ⟨by rw [e, e1.1, h1]; rfl, fun x hx => ?_⟩
      rcases List.mem_cons.mp hx with z | z
      · rw [z]; exact e1.2
      · exact h2 x z
  | .non :: _, _, _, _, h | .int _ :: _, _, _, _, h | .bl _ :: _, _, _, _, h | .tup _ :: _, _, _, _, h | .loc _ :: _, _, _, _, h | .rol _ :: _, _, _, _, h => by cases h
theorem join_sg0 (s : ML.Sg) : ∀ ys : List ML.Sg, Str.join (sg s) (ys.map sg) = sg (ML.joinS s ys)
  | [] => rfl
  | [x] => rfl
  | x :: y :: r => by
    show sg x ++ sg s ++ Str.join (sg s) ((y :: r).map sg) = _
    rw [join_sg0 s (y :: r)]
    show _ = sg (x ++ s ++ ML.joinS s (y :: r))
    rw [sg_app, sg_app]
theorem join_sg (s : ML.Sg) (ys : List ML.Sg) : Txt.join (sg s) (ys.map sg) = sg (ML.joinS s ys) := by
  show Builtin.Str.glued _ _ = _
  rw [StrLaws.glued_eq_join, join_sg0]
theorem join_len (s : ML.Sg) : ∀ ys : List ML.Sg, (ML.joinS s ys).length ≤ (ys.map List.length).sum + ys.length * s.length
  | [] => by simp [ML.joinS]
  | [x] => by simp [ML.joinS]
  | x :: y :: r => by
    have := join_len s (y :: r)
    simp only [ML.joinS, List.length_append, List.map_cons, List.sum_cons, List.length_cons, Nat.add_mul] at this ⊢
    omega
theorem join_ok {s : ML.Sg} (hs : ∀ c ∈ s, c < 0x110000) : ∀ ys : List ML.Sg, (∀ b ∈ ys, ∀ c ∈ b, c < 0x110000) → ∀ c ∈ ML.joinS s ys, c < 0x110000
  | [], _ => fun c hc => nomatch hc
  | [x], h => h x (by simp)
  | x :: y :: r, h => fun c hc => by
    simp only [ML.joinS, List.mem_append] at hc
    rcases hc with (hc | hc) | hc
    · exact h x (by simp) c hc
    · exact hs c hc
    · exact join_ok hs (y :: r) (fun b hb => h b (List.mem_cons_of_mem _ hb)) c hc
theorem m_join (hK : X.K = c.K) : MtR X "str.join" (rMtL c .join) := by
  intro pins s σ H x xs v us Q I rx rv h
  obtain ⟨ρ, S, w, d, q, b, rs, r, ex, lk, hg, p⟩ := h
  obtain ⟨ws, r2, k1, k2, _, z⟩ := lk.at_ rs hg
  cases d with
  | str t =>
    unfold ML.mthLD at p
    dsimp only at p
    cases e1 : ML.strsD q.xs with
    | none => rw [e1] at p; exact p.elim
    | some ys =>
      rw [e1] at p
      dsimp only at p
      by_cases hz : ML.joinOk t ys = true
      · rw [if_pos hz] at p
        obtain ⟨h1, h2⟩ := strs_of r2 e1
        subst h1
        unfold ML.joinOk at hz
        simp only [decide_eq_true_eq] at hz
        simp only [RD] at r
        have hm : (ys.map sg).map (·.length) = ys.map List.length := by
          rw [List.map_map]
          exact List.map_congr_left fun y _ => sg_len y
        refine L2.mt_join pins s σ H x xs v us Q I rx rv ⟨sg t, b, ys.map sg, r.1, ex, ?_, ?_, ?_⟩
        · cases hb : q.b with
          | true => exact .inl (by rw [hK]; exact k1 hb)
          | false => exact .inr (by rw [hK]; exact k2 hb)
        · rw [hm, List.length_map, sg_len]
          have : ML.lim = 1000000 := rfl
          omega
        · rw [join_sg]
          refine p.ok rs _ ?_
          simp only [RD]
          refine ⟨trivial, join_ok r.2.1 ys (fun b hb => (h2 b hb).1), ?_⟩
          have := join_len t ys
          omega
      · rw [if_neg hz] at p; exact p.elim
  | _ => exact p.elim
theorem e_dict0 : PE X (.Dict [] [] pos) (tE c W fun σ S => .ok (.loc S.length) (S ++ [.dct []])) := PE.mono L2.pe_dnewK fun τ H Q h => by
  obtain ⟨ρ, S, σ, rs, re, p⟩ := h
  intro q hq
  have hn := rs.fresh hq
  refine p (ρ ++ [q]) _ (Fr.own hq hn) (rs.own hq hn ⟨[], upd_same, List.nodup_nil, rfl⟩) _ ?_
  simp only [RD]
  exact ⟨q, rfl, by rw [← rs.len]; simp⟩
end
end MS
end
section
set_option linter.all false
set_option maxRecDepth 100000
set_option maxHeartbeats 1000000
/-! MS17: statements. -/
namespace MS
open PySem
open L2 (V Hp HO SqL SqT Rd upd upd_same upd_ne RelV Vals TE TA TT TS TI TG TGs VK XK WX Cx Inv PE PT PW PA PS PSs PI PG PGs OpR It Turn PIE PTs CallR MtR Gl Ends)
def NX : XW := fun _ _ _ _ _ => False
/-- what a statement's end is to be -/
def Flk (c : Cn) (W : WX) (D : Ends) : ML.Fl → ML.St → List Addr → Hp → Prop := fun fl S ρ H => match fl with
  | .nx σ => ∀ τ, RE c ρ H σ τ → D.nx τ H
  | .rt d => ∀ v, RD c ρ H d v → D.rt v H
  | .bk σ => ∀ τ, RE c ρ H σ τ → D.bk τ H
  | .ct σ => ∀ τ, RE c ρ H σ τ → D.ct τ H
  | .xc n fs σ => ∀ τ, RE c ρ H σ τ → ∀ d, RX c ρ H fs d → W (.ref (c.cls n)) d τ H
def tS (c : Cn) (W : WX) (f : ML.Env → ML.St → ML.Out ML.Fl) : TS := fun D τ H => ∃ ρ S σ, RS c ρ H S ∧ RE c ρ H σ τ ∧ Pst c NX ρ H (f σ S) (Flk c W D)
section
variable {X : Cx} {c : Cn} {W : WX} {e tg : Expr} {es : List Expr} {a b : List Stmt} {st : Stmt} {pos : Pos} {fe : ML.Env → ML.St → ML.Out ML.D} {f g : ML.Env → ML.St → ML.Out ML.Fl} {ts : List Nat} {fg : ML.D → ML.Env → ML.St → ML.Out ML.Env}
  {fi : ML.Env → ML.St → ML.Out (List ML.D × ML.Gd)} {ρ ρ1 : List Addr} {H H1 : Hp} {S S1 : ML.St}
theorem PS.mono {t t' : TS} (h : PS X st t) (f : ∀ D τ H, t' D τ H → t D τ H) : PS X st t' := ⟨fun pins s σ H D I q => h.run pins s σ H D I (f D σ H q)⟩
theorem PSs.mono {t t' : TS} (h : PSs X a t) (f : ∀ D τ H, t' D τ H → t D τ H) : PSs X a t' := ⟨fun pins s σ H D I q => h.run pins s σ H D I (f D σ H q)⟩
theorem Pst.lft {α : Type} {D : Ends} {x : ML.Out α} {σ : ML.Env} {τ : L2.St} {k : α → ML.St → ML.Out ML.Fl} (rs : RS c ρ H S) (re : RE c ρ H σ τ) (p : Pst c NX ρ H (x.lft σ k) (Flk c W D)) :
    Pst c (Wsh c W τ) ρ H x fun d S' ρ' H' => Pst c NX ρ' H' (k d S') (Flk c W D) := by
  cases x with
  | ok d S' => exact fun ρ' H' fr rs' => Pst.at_ p fr
  | bad => exact p
  | exc n fs S' => exact fun ρ' H' fr rs' d rx => p ρ' H' fr rs' τ (re.mono rs fr) d rx
theorem ss_nil : PSs X [] (tS c W fun σ S => .ok (.nx σ) S) := PSs.mono L2.pss_nil fun D τ H h => by
  obtain ⟨ρ, S, σ, rs, re, p⟩ := h
  exact p.ok rs τ re
theorem ss_cons (h1 : PS X st (tS c W f)) (h2 : PSs X a (tS c W g)) : PSs X (st :: a) (tS c W fun σ S => (f σ S).bnd fun fl S => match fl with
    | .nx σ => g σ S
    | r => .ok r S) := PSs.mono (L2.pss_cons h1 h2) fun D τ H h => by
  obtain ⟨ρ, S, σ, rs, re, p⟩ := h
  refine ⟨ρ, S, σ, rs, re, p.bnd.mono fun fl S' ρ' H' fr rs' q => ?_⟩
  cases fl with
  | nx σ' => exact fun τ' re' => ⟨ρ', S', σ', rs', re', q⟩
  | rt d => exact q.ok rs'
  | bk σ' => exact q.ok rs'
  | ct σ' => exact q.ok rs'
  | xc n fs σ' => exact q.ok rs'
theorem s_asg (he : PE X e (tE c W fe)) (hg : PG X tg (tG c W ts fg)) (hs : swapsWithSole [tg] e pos.line X.env = pure false) (hw : swappedStores [tg] e X.env = pure none) (h1 : ∀ x p, tg ≠ .Starred x p) :
    PS X (.Assign [tg] e pos) (tS c W fun σ S => (fe σ S).lft σ fun x S => (fg x σ S).lft σ fun σ S => .ok (.nx σ) S) := PS.mono (L2.ps_asg he hg hs hw (assignEach_cons h1)) fun D τ H h => by
  obtain ⟨ρ, S, σ, rs, re, p⟩ := h
  refine ⟨ρ, S, σ, rs, re, (p.lft rs re).mono fun d S1 ρ1 H1 f1 rs1 p1 v r => ?_⟩
  exact ⟨ρ1, S1, σ, d, rs1, re.mono rs f1, r, (p1.lft rs1 (re.mono rs f1)).mono fun σ2 S2 ρ2 H2 f2 rs2 p2 τ' re' _ => p2.ok rs2 τ' re'⟩
theorem s_ex (he : PE X e (tE c W fe)) (hs : swapsWith e none pos.line X.env = pure false) : PS X (.Expr e pos) (tS c W fun σ S => (fe σ S).lft σ fun _ S => .ok (.nx σ) S) := PS.mono (L2.ps_expr he hs) fun D τ H h => by
  obtain ⟨ρ, S, σ, rs, re, p⟩ := h
  refine ⟨ρ, S, σ, rs, re, (p.lft rs re).monoE fun d S1 ρ1 H1 _ f1 rs1 p1 v r => ?_⟩
  exact p1.ok rs1 τ (re.mono rs f1)
theorem s_if {t : Expr} {ft : ML.Env → ML.St → ML.Out ML.D} (ht : PT X t (tT c W (tst ft))) (ha : PSs X a (tS c W f)) (hb : PSs X b (tS c W g)) :
    PS X (.If t a b pos) (tS c W fun σ S => (ft σ S).lft σ fun x S => (ML.asBool x S).lft σ fun r S => if r then f σ S else g σ S) := PS.mono (L2.ps_if ht ha hb) fun D τ H h => by
  obtain ⟨ρ, S, σ, rs, re, p⟩ := h
  have q : Pst c (Wsh c W τ) ρ H ((ft σ S).bnd fun x S => ML.asBool x S) fun r S' ρ' H' => Pst c NX ρ' H' (if r then f σ S' else g σ S') (Flk c W D) := by
    dsimp only at p
    cases e1 : ft σ S with
    | bad => rw [e1] at p; exact p
    | exc n fs S' => rw [e1] at p; exact fun ρ' H' fr rs' d rx => p ρ' H' fr rs' τ (re.mono rs fr) d rx
    | ok d S' =>
      rw [e1] at p
      replace p : Pst c NX ρ H ((ML.asBool d S').lft σ fun r S => if r then f σ S else g σ S) (Flk c W D) := p
      show Pst c (Wsh c W τ) ρ H (ML.asBool d S') _
      cases d with
      | bl r => exact fun ρ' H' fr rs' => Pst.at_ p fr
      | _ => exact p.elim
  refine ⟨ρ, S, σ, rs, re, q.mono fun r S1 ρ1 H1 f1 rs1 p1 => ?_⟩
  cases r with
  | true => exact ⟨ρ1, S1, σ, rs1, re.mono rs f1, p1⟩
  | false => exact ⟨ρ1, S1, σ, rs1, re.mono rs f1, p1⟩
theorem s_ret (he : PE X e (tE c W fe)) : PS X (.Return (some e) pos) (tS c W fun σ S => (fe σ S).lft σ fun x S => .ok (.rt x) S) := PS.mono (L2.ps_ret he) fun D τ H h => by
  obtain ⟨ρ, S, σ, rs, re, p⟩ := h
  exact ⟨ρ, S, σ, rs, re, (p.lft rs re).mono fun d S1 ρ1 H1 f1 rs1 p1 v r => p1.ok rs1 v r⟩
theorem s_retN : PS X (.Return none pos) (tS c W fun _ S => .ok (.rt .non) S) := PS.mono L2.ps_retN fun D τ H h => by
  obtain ⟨ρ, S, σ, rs, re, p⟩ := h
  exact p.ok rs .non (by simp [RD])
theorem s_pass : PS X (.Pass pos) (tS c W fun σ S => .ok (.nx σ) S) := PS.mono L2.ps_pass fun D τ H h => by
  obtain ⟨ρ, S, σ, rs, re, p⟩ := h
  exact p.ok rs τ re
theorem s_brk : PS X (.Break pos) (tS c W fun σ S => .ok (.bk σ) S) := PS.mono L2.ps_break fun D τ H h => by
  obtain ⟨ρ, S, σ, rs, re, p⟩ := h
  exact p.ok rs τ re
theorem s_cnt : PS X (.Continue pos) (tS c W fun σ S => .ok (.ct σ) S) := PS.mono L2.ps_continue fun D τ H h => by
  obtain ⟨ρ, S, σ, rs, re, p⟩ := h
  exact p.ok rs τ re
/-- what a turn's end is to the loop -/
theorem s_while {n : Nat} {t : Expr} {ft : ML.Env → ML.St → ML.Out ML.D} (hp : PassesOwn (model X.prog X.w) X.A X.env X.xe) (ht : PT X t (tT c W (tst ft))) (hb : PSs X a (tS c W f)) :
    PS X (.While t a [] pos) (tS c W fun σ S => ML.whlD (tst ft) f n σ S) := PS.mono (L2.ps_while hp ht hb) fun D τ H h => by
  obtain ⟨ρ, S, σ, rs, re, p⟩ := h
  refine ⟨fun m τ H => ∃ ρ S σ, RS c ρ H S ∧ RE c ρ H σ τ ∧ Pst c NX ρ H (ML.whlD (tst ft) f m σ S) (Flk c W D), ⟨n, ρ, S, σ, rs, re, p⟩, ?_⟩
  rintro m τ H ⟨ρ, S, σ, rs, re, p⟩
  cases m with
  | zero => exact p.elim
  | succ m =>
    unfold ML.whlD at p
    refine ⟨ρ, S, σ, rs, re, (p.lft rs re).mono fun r S1 ρ1 H1 f1 rs1 p1 => ?_⟩
    have re1 := re.mono rs f1
    cases r with
    | false => exact Pst.ok p1 rs1 τ re1
    | true =>
      refine ⟨fun τ H => ∃ ρ S σ, RS c ρ H S ∧ RE c ρ H σ τ ∧ Pst c NX ρ H (ML.whlD (tst ft) f m σ S) (Flk c W D), fun τ' H' h => ⟨m, Nat.lt_succ_self m, h⟩, ρ1, S1, σ, rs1, re1, ?_⟩
      refine (Pst.bnd p1).mono fun fl S2 ρ2 H2 f2 rs2 p2 => ?_
      cases fl with
      | nx σ' => exact fun τ' re' => ⟨ρ2, S2, σ', rs2, re', p2⟩
      | ct σ' => exact fun τ' re' => ⟨ρ2, S2, σ', rs2, re', p2⟩
      | bk σ' => exact fun τ' re' => p2.ok rs2 τ' re'
      | rt d => exact p2.ok rs2
      | xc n fs σ' => exact p2.ok rs2
theorem s_for (hp : PassesOwn (model X.prog X.w) X.A X.env X.xe) (hc : X.calm = true) (hi : PI X tg e (tIt c W fi)) (hg : PG X tg (tG c W ts fg)) (hb : PSs X a (tS c W f)) (hs : ∀ x, foldedSetIterable e X.env x = pure x) :
    PS X (.For tg e a [] pos) (tS c W fun σ S => (fi σ S).lft σ fun p S => ML.forD p.2 (fun d σ S => (fg d σ S).lft σ fun σ S => f σ S) p.1 σ S) := PS.mono (L2.ps_for hp hc hi hg hb hs) fun D τ H h => by
  obtain ⟨ρ, S, σ, rs, re, p⟩ := h
  refine ⟨ρ, S, σ, rs, re, (p.lft rs re).mono fun q S1 ρ1 H1 f1 rs1 p1 J rl => ?_⟩
  obtain ⟨xs, g⟩ := q
  generalize hbd : (fun (d : ML.D) (σ : ML.Env) (S : ML.St) => (fg d σ S).lft σ fun σ S => f σ S) = bd at p1
  let Wi : Nat → Nat → L2.St → Hp → Prop := fun i m τ H => ∃ ρ S σ, m = xs.length - i ∧ i ≤ xs.length ∧ Fr ρ1 H1 ρ H ∧ RS c ρ H S ∧ RE c ρ H σ τ ∧ Pst c NX ρ H (ML.forD g bd (xs.drop i) σ S) (Flk c W D)
  refine ⟨Wi, ⟨xs.length, ρ1, S1, σ, by simp, by simp, Fr.refl, rs1, re.mono rs f1, by simpa using p1⟩, ?_⟩
  rintro i m τ H ⟨ρ, S, σ, hm, hi, fr, rs, re, p⟩
  have hlen : ∀ d r, xs.drop i = d :: r → i < xs.length ∧ xs[i]? = some d ∧ xs.drop (i + 1) = r := fun d r e => by
    have h1 : i < xs.length := by
      rcases Nat.lt_or_ge i xs.length with z | z
      · exact z
      · rw [List.drop_eq_nil_of_le z] at e; cases e
    rw [List.drop_eq_getElem_cons h1] at e
    injection e with e1 e2
    exact ⟨h1, by rw [List.getElem?_eq_getElem h1, e1], e2⟩
  cases hdr : xs.drop i with
  | nil =>
    rw [hdr] at p
    unfold ML.forD at p
    by_cases hgd : g.ok S = true
    · rw [if_pos hgd] at p
      obtain ⟨hz, hst, _⟩ := rl ρ S H fr rs hgd
      exact .inl ⟨hst i (by simpa using hdr), p.ok rs τ re⟩
    · rw [if_neg hgd] at p; exact p.elim
  | cons d r =>
    rw [hdr] at p
    obtain ⟨h1, h2, h3⟩ := hlen d r hdr
    unfold ML.forD at p
    by_cases hgd : g.ok S = true
    · rw [if_pos hgd] at p
      obtain ⟨hz, _, hgo⟩ := rl ρ S H fr rs hgd
      obtain ⟨go, yl⟩ := hgo i d h2
      refine .inr ⟨go, Wi (i + 1) (xs.length - (i + 1)), fun τ' H' h => ⟨_, by omega, h⟩, fun x H' hy => ?_⟩
      obtain ⟨fx, rsx, rdx⟩ := yl x H' hy
      have p2 := p.bnd.at_ fx
      subst hbd
      have rex := re.mono rs fx
      -- the target's store, then the body
      have p3 : Pst c (Wsh c W τ) ρ H' (fg d σ S) fun σ' S' ρ' H'' => Pst c NX ρ' H'' (f σ' S') (Flk c W { D with nx := Wi (i + 1) (xs.length - (i + 1)), ct := Wi (i + 1) (xs.length - (i + 1)), bk := D.nx }) := by
        refine Pst.lft rsx rex (D := { D with nx := Wi (i + 1) (xs.length - (i + 1)), ct := Wi (i + 1) (xs.length - (i + 1)), bk := D.nx }) (p2.mono fun fl S4 ρ4 H4 f4 rs4 p4 => ?_)
        cases fl with
        | nx σ' =>
          refine fun τ' re' => ⟨ρ4, S4, σ', rfl, by omega, fr.trans (fx.trans f4), rs4, re', ?_⟩
          rw [h3]; exact p4
        | ct σ' =>
          refine fun τ' re' => ⟨ρ4, S4, σ', rfl, by omega, fr.trans (fx.trans f4), rs4, re', ?_⟩
          rw [h3]; exact p4
        | bk σ' => exact fun τ' re' => p4.ok rs4 τ' re'
        | rt d => exact p4.ok rs4
        | xc n fs σ' => exact p4.ok rs4
      exact ⟨ρ, S, σ, d, rsx, rex, rdx, p3.mono fun σ' S' ρ' H'' f' rs' p4 τ' re' _ => ⟨ρ', S', σ', rs', re', p4⟩⟩
    · rw [if_neg hgd] at p; exact p.elim
end
end MS
end
section
set_option linter.all false
set_option maxRecDepth 100000
set_option maxHeartbeats 1000000
/-! MS18: targets, calls, functions. -/
namespace MS
open PySem
open L2 (V Hp HO SqL SqT Rd upd upd_same upd_ne RelV Vals TE TA TT TS TI TG TGs VK XK WX Cx Inv PE PT PW PA PS PSs PI PG PGs OpR It Turn PIE PTs CallR MtR Gl Ends FnOk Room XK Sp)
section
variable {X : Cx} {c : Cn} {W : WX} {e tg a b : Expr} {es : List Expr} {pos : Pos} {kk : Nat} {fa fb : ML.Env → ML.St → ML.Out ML.D} {ts : List Nat} {fs : List ML.D → ML.Env → ML.St → ML.Out ML.Env} {fl : ML.Env → ML.St → ML.Out (List ML.D)}
theorem PG.or {t t' : TG} (h : PG X tg t) (h' : PG X tg t') : PG X tg fun v τ H Q => t v τ H Q ∨ t' v τ H Q := ⟨fun pins s σ H v u Q I r q => by
  rcases q with q | q
  · exact h.run pins s σ H v u Q I r q
  · exact h'.run pins s σ H v u Q I r q⟩
theorem g_tup {n : Nat} (hK : X.K = c.K) (hc : X.calm = true) (h : PGs X es (tGs c W0 ts fs)) (hn : (assignEach es X.env).length = n) (hst : (assignEach es X.env).findIdx? (·.1) = none)
    (hl : ∀ xs σ S σ' S', fs xs σ S = .ok σ' S' → xs.length = n) :
    PG X (.Tuple es kk pos) (tG c W ts fun d σ S => match ML.itemsOf S d with
      | some xs => (fs xs σ S).nox
      | none => .bad) := PG.mono (PG.or (L2.pg_tup hc h hn hst) (L2.pg_unl hc h hn hst)) fun v τ H Q hq => by
  obtain ⟨ρ, S, σ, d, rs, re, rd, p⟩ := hq
  dsimp only at p
  cases e1 : ML.itemsOf S d with
  | none => rw [e1] at p; exact p.elim
  | some xs =>
    rw [e1] at p
    dsimp only at p
    obtain ⟨a, q, e2, e3, lk, hg⟩ := lk_of rs rd e1
    obtain ⟨vs, r, k1, k2, _, _⟩ := lk.at_ rs hg
    subst e3
    have hlen : vs.length = n := by
      cases e4 : fs q.xs σ S with
      | bad => rw [e4] at p; exact p.elim
      | exc _ _ _ => rw [e4] at p; exact p.elim
      | ok σ' S' => rw [← r.len]; exact hl _ _ _ _ _ e4
    have p' : tGs c W0 ts fs vs τ H Q := ⟨ρ, S, σ, q.xs, rs, re, r, p.unnox⟩
    cases hb : q.b with
    | true => exact .inr ⟨a, vs, e2, by rw [hK]; exact k1 hb, hlen, p'⟩
    | false => exact .inl ⟨a, vs, e2, by rw [hK]; exact k2 hb, hlen, p'⟩
/-! ### o[i] = v -/
def rSet (c : Cn) : L2.TSet := fun o i v H Q => ∃ ρ S w d1 d2 d, RS c ρ H S ∧ RD c ρ H d1 o ∧ RD c ρ H d2 i ∧ RD c ρ H d v ∧ Pst c w ρ H (ML.setIx d1 d2 d S) fun _ S' ρ' H' => Q H'
theorem RDs.set {ρ : List Addr} {H : Hp} {d : ML.D} {v : V} (r : RD c ρ H d v) : ∀ {ds : List ML.D} {vs : List V} (j : Nat), RDs c ρ H ds vs → RDs c ρ H (ds.set j d) (vs.set j v)
  | [], _, _, h => by simp only [RDs] at h; subst h; simp [RDs]
  | x :: xs, vs, 0, h => by
    simp only [RDs] at h
    obtain ⟨w, l, e, _, r2⟩ := h
    subst e
    simp only [List.set_cons_zero, RDs]
    exact ⟨v, l, rfl, r, r2⟩
  | x :: xs, vs, j + 1, h => by
    simp only [RDs] at h
    obtain ⟨w, l, e, r1, r2⟩ := h
    subst e
    simp only [List.set_cons_succ, RDs]
    exact ⟨w, l.set j v, rfl, r1, r2.set r j⟩
theorem set_M (hu : X.A.units + 1 < cLine) : L2.PSet X (rSet c) := by
  intro pins s σ H o i v ov iv u Q I ro ri rv h
  obtain ⟨ρ, S, w, d1, d2, d, rs, r1, r2, r3, p⟩ := h
  cases d1 with
  | loc l =>
    unfold ML.setIx at p
    dsimp only at p
    cases e1 : S[l]? with
    | none => rw [e1] at p; exact p.elim
    | some ob =>
      cases ob with
      | lst xs =>
        rw [e1] at p
        dsimp only at p
        cases d2 with
        | int k =>
          dsimp only at p
          simp only [RD] at r2
          cases e2 : ML.ixN xs.length k with
          | none => rw [e2] at p; exact p.elim
          | some j =>
            rw [e2] at p
            obtain ⟨a, vs, e, ea, t, g, z⟩ := rs.lst e1 r1
            have hm : a ∈ ρ := List.mem_of_getElem? ea
            refine L2.set_list pins s σ H o i v ov iv u Q I ro ri rv ⟨a, vs, k, j, e, r2, t, by rw [← g.len]; exact e2, ?_⟩
            exact p ρ _ (Fr.wr hm) (rs.wr ea ⟨by rw [List.length_set]; exact z, _, upd_same, (RDs.set r3 j g).mono rs (Fr.wr hm)⟩)
        | _ => exact p.elim
      | dct kvs =>
        rw [e1] at p
        dsimp only at p
        by_cases hk : (ML.keyOk d2 && decide (kvs.length < ML.lim)) = true
        · rw [if_pos hk] at p
          simp only [Bool.and_eq_true, decide_eq_true_eq] at hk
          obtain ⟨a, vs, e, ea, t, nd, g⟩ := rs.dct e1 r1
          obtain ⟨K, hK'⟩ := kk_of hk.1
          obtain ⟨ev, sk⟩ := kk_V hK' r2
          have hm : a ∈ ρ := List.mem_of_getElem? ea
          have hl : vs.length < sizeLine := by rw [← g.len]; exact Nat.lt_of_lt_of_le hk.2 (by decide)
          obtain ⟨q1, q2⟩ := g.put nd hK' sk r3
          refine L2.set_dict hu pins s σ H o i v ov iv u Q I ro ri rv ⟨a, _, e, .inl ⟨vs, K, t, ev, hl, rfl⟩, ?_⟩
          exact p ρ _ (Fr.wr hm) (rs.wr ea ⟨_, upd_same, q2, q1.mono rs (Fr.wr hm)⟩)
        · rw [if_neg hk] at p; exact p.elim
      | _ => rw [e1] at p; exact p.elim
  | _ => exact p.elim
theorem g_idx (hu : X.A.units + 1 < cLine) (ha : PE X a (tE c W fa)) (hb : PE X b (tE c W fb)) (has : ∀ v, assign (.Subscript a b pos) X.env v = (do
      let ov ← holding [v] (eval a X.env)
      let iv ← holding [v, ov] (eval b X.env)
      standAt pos
      holding [v, ov, iv] (setItem ov iv v)
      release [v, ov, iv] [])) :
    PG X (.Subscript a b pos) (tG c W [] fun d σ S => (fa σ S).bnd fun x S => (fb σ S).bnd fun y S => (ML.setIx x y d S).bnd fun _ S => .ok σ S) := PG.mono (L2.pg_sub ha hb (set_M (c := c) hu) has) fun v τ H Q hq => by
  obtain ⟨ρ, S, σ, d, rs, re, rd, p⟩ := hq
  refine ⟨ρ, S, σ, rs, re, p.bnd.mono fun d1 S1 ρ1 H1 f1 rs1 p1 v1 r1 => ?_⟩
  refine ⟨ρ1, S1, σ, rs1, re.mono rs f1, p1.bnd.mono fun d2 S2 ρ2 H2 f2 rs2 p2 v2 r2 => ?_⟩
  refine ⟨ρ2, S2, _, d1, d2, d, rs2, RD.mono rs1 f2 d1 v1 r1, r2, RD.mono rs (f1.trans f2) d v rd, p2.bnd.mono fun _ S3 ρ3 H3 f3 rs3 p3 => ?_⟩
  exact p3.ok rs3 τ (re.mono rs (f1.trans (f2.trans f3))) UpdS.refl
/-! ### calls of own functions -/
def spF (c : Cn) (g : List ML.D → ML.St → ML.Out ML.D) : Sp := fun vs H Q E => ∃ ρ S ds, RS c ρ H S ∧ RDs c ρ H ds vs ∧ Pst c (fun n fs _ ρ H => ∀ d, RX c ρ H fs d → E (.ref (c.cls n)) d H) ρ H (g ds S) fun d _ ρ' H' => ∀ v, RD c ρ' H' d v → Q v H'
theorem e_fn {k : Nat} {f : Addr} {fd : FuncData} {ps : List Str} {x : Str} {p : Pos} {g : List ML.D → ML.St → ML.Out ML.D} {sp : Sp} (F : FnOk X.prog X.w X.K X.mg X.base (L2.CX X.prog X.w) k f fd ps sp) (hsp : ∀ vs H Q E, spF c g vs H Q E → vs.length = ps.length → sp vs H Q E)
    (hl : ∀ σ S ds S', fl σ S = .ok ds S' → ds.length = ps.length)
    (hr : Room k X.A) (hg : Gl X x) (hm : X.mg x = some (.ref f)) (hk : PySem.W.keepIn X.K (.ref f) = true) (hb : L2.Binds X.K fd ps []) (tk : L2.Takes X W) (hst : ∀ x p, e ≠ .Starred x p)
    (ha : PA X (e :: es) (tA c W fl)) (hdb : (x == ("__debug__" : Str)) = false) (hpl : (backTo pos (starEach es X.env)).any (·.1) = false) :
    PE X (.Call (.Name x p) (e :: es) [] pos) (tE c W fun σ S => (fl σ S).bnd fun ds S => g ds S) := PE.mono (L2.pe_callS F hr hg hm hk hb (L2.passAt tk) ha hdb (starEach_cons hst) hpl) fun τ H Q h => by
  obtain ⟨ρ, S, σ, rs, re, p⟩ := h
  refine ⟨ρ, S, σ, rs, re, p.bnd.monoE fun ds S1 ρ1 H1 ee f1 rs1 p1 vs rv => hsp _ _ _ _ ⟨ρ1, S1, ds, rs1, rv, p1⟩ (by rw [← rv.len]; exact hl _ _ _ _ ee)⟩
end
/-! ### what a call alone made is dropped -/
section
variable {c : Cn} {ρ t : List Addr} {H H' : Hp} {S S' : ML.St}
theorem RKs.cut : ∀ {kvs kvs0 : List (ML.D × ML.D)} {r r0 : List (L2.Key × V)}, RKs c (ρ ++ t) H' kvs r → RKs c ρ H kvs r0 → RKs c ρ H' kvs r
  | [], _, r, _, h, _ => h
  | p :: ps, _, r, r0, ⟨k, v, r', e, e1, e2, r1, r2⟩, ⟨_, v0, r0', _, _, _, q1, q2⟩ => ⟨k, v, r', e, e1, e2, RD.cut _ _ r1 (RD.und _ _ q1), RKs.cut (kvs0 := ps) r2 q2⟩
theorem RFs.cut : ∀ {kvs : List (Nat × ML.D)} {r r0 : List (Str × V)}, RFs c (ρ ++ t) H' kvs r → RFs c ρ H kvs r0 → RFs c ρ H' kvs r
  | [], r, _, h, _ => h
  | p :: ps, r, r0, ⟨v, r', e, r1, r2⟩, ⟨v0, r0', _, q1, q2⟩ => ⟨v, r', e, RD.cut _ _ r1 (RD.und _ _ q1), RFs.cut r2 q2⟩
theorem RO.cut {o : ML.O} {p : Addr} (h : RO c (ρ ++ t) H' o p) (h0 : RO c ρ H o p) : RO c ρ H' o p := by
  cases o with
  | lst xs =>
    obtain ⟨z, vs, e, r⟩ := h
    obtain ⟨_, vs0, _, r0⟩ := h0
    exact ⟨z, vs, e, RDs.cut _ _ r (RDs.unds _ _ r0)⟩
  | dct kvs =>
    obtain ⟨r, e, nd, g⟩ := h
    obtain ⟨r0, _, _, g0⟩ := h0
    exact ⟨r, e, nd, RKs.cut (kvs0 := kvs) g g0⟩
  | ins k fs =>
    obtain ⟨dx, r, e, g⟩ := h
    obtain ⟨_, r0, _, g0⟩ := h0
    exact ⟨dx, r, e, g.cut g0⟩
  | exn k fs => exact h.elim
theorem RS.cut (rs : RS c ρ H S) (rs' : RS c (ρ ++ t) H' S') (h : S'.take S.length = S) : RS c ρ H' S := by
  refine ⟨rs.len, rs.nd, fun i o p e1 e2 => ?_⟩
  have hi : i < S.length := (List.getElem?_eq_some_iff.mp e1).1
  have e3 : S'[i]? = some o := by
    rw [← h, List.getElem?_take_of_lt hi] at e1
    exact e1
  have e4 : (ρ ++ t)[i]? = some p := by
    rw [List.getElem?_append_left (by rw [rs.len]; exact hi)]
    exact e2
  exact (rs'.obj i o p e3 e4).cut (rs.obj i o p e1 e2)
theorem RFs.unds : ∀ {kvs : List (Nat × ML.D)} {r : List (Str × V)}, RFs c (ρ ++ t) H' kvs r → ML.D.unds ρ.length (kvs.map (·.2)) = true → RFs c ρ H' kvs r
  | [], r, h, _ => h
  | p :: ps, r, ⟨v, r', e, r1, r2⟩, u => by
    simp only [List.map_cons, ML.D.unds, Bool.and_eq_true] at u
    exact ⟨v, r', e, RD.cut _ _ r1 u.1, RFs.unds r2 u.2⟩
/-- a run's end behind its call -/
theorem gc_ok {w : XW} {Q : VK} {d : ML.D} (rs : RS c ρ H S) (f : Fr ρ H (ρ ++ t) H') (rs' : RS c (ρ ++ t) H' S') (p : Pst c w ρ H (ML.gc S d S') fun d _ ρ' H' => ∀ v, RD c ρ' H' d v → Q v H') : ∀ v, RD c (ρ ++ t) H' d v → Q v H' := by
  intro v r
  unfold ML.gc at p
  by_cases h : (decide (S'.take S.length = S) && d.und S.length) = true
  · rw [if_pos h] at p
    simp only [Bool.and_eq_true, decide_eq_true_eq] at h
    exact p ρ H' f.drop (rs.cut rs' h.1) v (RD.cut d v r (by rw [rs.len]; exact h.2))
  · rw [if_neg h] at p
    exact p (ρ ++ t) H' f rs' v r
theorem gc_exc {w : XW} {n : Nat} {fs : List (Nat × ML.D)} {k : ML.D → ML.St → List Addr → Hp → Prop} {E : XK} (hw : ∀ n fs S ρ H, w n fs S ρ H = ∀ d, RX c ρ H fs d → E (.ref (c.cls n)) d H) (rs : RS c ρ H S) (f : Fr ρ H (ρ ++ t) H') (rs' : RS c (ρ ++ t) H' S') (p : Pst c w ρ H (ML.gcX S n fs S') k) :
    ∀ d, RX c (ρ ++ t) H' fs d → E (.ref (c.cls n)) d H' := by
  intro d r
  unfold ML.gcX at p
  by_cases h : (decide (S'.take S.length = S) && ML.D.unds S.length (fs.map (·.2))) = true
  · rw [if_pos h] at p
    simp only [Bool.and_eq_true, decide_eq_true_eq] at h
    have q := p ρ H' f.drop (rs.cut rs' h.1)
    rw [hw] at q
    refine q d ?_
    cases d with
    | none => exact r
    | some a =>
      obtain ⟨l, e, hn, g⟩ := r
      exact ⟨l, e, fun z => hn (List.mem_append_left _ z), g.unds (by rw [rs.len]; exact h.2)⟩
  · rw [if_neg h] at p
    have q := p (ρ ++ t) H' f rs'
    rw [hw] at q
    exact q d r
theorem RE.start {ds : List ML.D} {vs : List V} {N : List Str} (r : RDs c ρ H ds vs) : RE c ρ H (ds.map some ++ List.replicate (N.length - ds.length) none) (L2.start N vs) := by
  unfold L2.start
  have hl := r.len
  refine ⟨by simp [hl], fun i d e => ?_⟩
  by_cases hi : i < ds.length
  · rw [List.getElem?_append_left (by simpa using hi), List.getElem?_map] at e
    cases e1 : ds[i]? with
    | none => rw [e1] at e; cases e
    | some d' =>
      rw [e1] at e
      simp at e
      subst e
      obtain ⟨v, e2, r2⟩ := r.get e1
      exact ⟨v, by rw [List.getElem?_append_left (by simp; omega), List.getElem?_map, e2]; rfl, r2⟩
  · rw [List.getElem?_append_right (by simp; omega), List.getElem?_replicate] at e
    split at e <;> cases e
/-- a body's reading, from what is promised of the call -/
theorem body_run {T : ML.Tab} {Wn : Nat} {cl : Nat → List ML.D → ML.St → ML.Out ML.D} {fn : ML.Fn} {N : List Str} {vs : List V} {Q : VK} {E : XK} (hN : fn.n = N.length) (h : spF c (ML.runFn T Wn cl fn) vs H Q E) :
    tS c (fun cls d _ H => E cls d H) (ML.exSs T Wn cl fn.body) { nx := fun _ H' => Q .non H', rt := Q } (L2.start N vs) H := by
  obtain ⟨ρ, S, ds, rs, r, p⟩ := h
  unfold ML.runFn at p
  by_cases ha : ds.length = fn.ar
  · rw [if_pos ha, hN, ← ha] at p
    refine ⟨ρ, S, _, rs, RE.start r, ?_⟩
    cases e1 : ML.exSs T Wn cl fn.body (ds.map some ++ List.replicate (N.length - ds.length) none) S with
    | bad => rw [e1] at p; exact p.elim
    | exc n fs S' => rw [e1] at p; exact p.elim
    | ok fl S' =>
      rw [e1] at p
      intro ρ' H' f rs'
      obtain ⟨t, et, _⟩ := id f.ext
      subst et
      cases fl with
      | nx σ' => exact fun τ _ => gc_ok (d := .non) rs f rs' p .non (by simp [RD])
      | rt d => exact gc_ok rs f rs' p
      | bk _ => exact p.elim
      | ct _ => exact p.elim
      | xc n fs σ' => exact fun τ _ => gc_exc (E := E) (fun _ _ _ _ _ => rfl) rs f rs' p
  · rw [if_neg ha] at p; exact p.elim
end
end MS
end
section
set_option linter.all false
set_option maxRecDepth 100000
set_option maxHeartbeats 1000000
/-! MS19: from the program's form to ML. -/
namespace MS
open PySem
open L2 (V Hp HO SqL SqT Rd upd upd_same upd_ne RelV Vals TE TA TT TS TI TG TGs VK XK WX Cx Inv PE PT PW PA PS PSs PI PG PGs OpR It Turn PIE PTs CallR MtR Gl Ends FnOk Room XK Sp)
def eslen : ML.Es → Nat
  | .nil => 0
  | .cons _ es => eslen es + 1
theorem evEs_len {T : ML.Tab} {cl : Nat → List ML.D → ML.St → ML.Out ML.D} : ∀ (es : ML.Es) (σ : ML.Env) (S : ML.St) (ds : List ML.D) (S' : ML.St), ML.evEs T cl es σ S = .ok ds S' → ds.length = eslen es
  | .nil, σ, S, ds, S', h => by
    simp only [ML.evEs] at h
    cases h; rfl
  | .cons e es, σ, S, ds, S', h => by
    simp only [ML.evEs] at h
    cases e1 : ML.evE T cl e σ S with
    | bad => rw [e1] at h; cases h
    | exc _ _ _ => rw [e1] at h; cases h
    | ok x S1 =>
      rw [e1] at h
      simp only [ML.Out.bnd] at h
      cases e2 : ML.evEs T cl es σ S1 with
      | bad => rw [e2] at h; cases h
      | exc _ _ _ => rw [e2] at h; cases h
      | ok xs S2 =>
        rw [e2] at h
        simp only [ML.Out.ok.injEq] at h
        obtain ⟨h1, _⟩ := h
        subst h1
        simp [eslen, evEs_len es _ _ _ _ e2]
def newL : ML.L → Bool
  | .ofE _ => false
  | _ => true
theorem bndOk {α β : Type} {x : ML.Out α} {f : α → ML.St → ML.Out β} {b : β} {S : ML.St} (h : x.bnd f = .ok b S) : ∃ a S1, x = .ok a S1 ∧ f a S1 = .ok b S := by
  cases x with
  | ok a S1 => exact ⟨a, S1, rfl, h⟩
  | bad => cases h
  | exc _ _ _ => cases h
theorem evL_new {T : ML.Tab} {cl : Nat → List ML.D → ML.St → ML.Out ML.D} {l : ML.L} (hn : newL l = true) {σ : ML.Env} {S : ML.St} {q : ML.Li} {S' : ML.St} (h : ML.evL T cl l σ S = .ok q S') : q.g = [] ∧ q.r = false := by
  cases l with
  | ofE _ => cases hn
  | disp es =>
    simp only [ML.evL] at h
    obtain ⟨_, _, _, h⟩ := bndOk h
    cases h; exact ⟨rfl, rfl⟩
  | add a b =>
    simp only [ML.evL] at h
    obtain ⟨_, _, _, h⟩ := bndOk h
    obtain ⟨_, _, _, h⟩ := bndOk h
    split at h
    · cases h; exact ⟨rfl, rfl⟩
    · cases h
  | sl a lo hi =>
    simp only [ML.evL] at h
    obtain ⟨_, _, _, h⟩ := bndOk h
    obtain ⟨_, _, _, h⟩ := bndOk h
    obtain ⟨_, _, _, h⟩ := bndOk h
    split at h
    · cases h; exact ⟨rfl, rfl⟩
    · cases h
  | rev a =>
    simp only [ML.evL] at h
    obtain ⟨_, _, _, h⟩ := bndOk h
    split at h
    · cases h; exact ⟨rfl, rfl⟩
    · cases h
  | comp e own t it c =>
    simp only [ML.evL] at h
    obtain ⟨_, _, _, h⟩ := bndOk h
    obtain ⟨_, _, _, h⟩ := bndOk h
    cases h; exact ⟨rfl, rfl⟩
  | comp2 e own own2 t it c t2 it2 c2 =>
    simp only [ML.evL] at h
    obtain ⟨_, _, _, h⟩ := bndOk h
    obtain ⟨_, _, _, h⟩ := bndOk h
    cases h; exact ⟨rfl, rfl⟩
  | list l =>
    simp only [ML.evL] at h
    obtain ⟨_, _, _, h⟩ := bndOk h
    cases h; exact ⟨rfl, rfl⟩
  | zipL a b =>
    simp only [ML.evL] at h
    obtain ⟨_, _, _, h⟩ := bndOk h
    obtain ⟨_, _, _, h⟩ := bndOk h
    split at h
    · cases h; exact ⟨rfl, rfl⟩
    · cases h
theorem evL_ok {T : ML.Tab} {cl : Nat → List ML.D → ML.St → ML.Out ML.D} {l : ML.L} {σ : ML.Env} {S : ML.St} {q : ML.Li} {S' : ML.St} (h : ML.evL T cl l σ S = .ok q S') : q.g.ok S' = true := by
  cases hn : newL l with
  | true => rw [(evL_new hn h).1]; rfl
  | false =>
    cases l with
    | ofE e =>
      simp only [ML.evL] at h
      obtain ⟨d, S1, _, h⟩ := bndOk h
      cases d with
      | tup xs => cases h; rfl
      | rol xs => cases h; rfl
      | loc l =>
        dsimp only at h
        cases e1 : ML.lstAt S1 l with
        | none => rw [e1] at h; cases h
        | some xs =>
          rw [e1] at h
          cases h
          unfold ML.Gd.ok
          simp [lstAt_of e1]
      | _ => cases h
    | _ => cases hn

/-- what the form's translation may look up -/
structure CEnv where
  N : List Str
  sc : Scope
  lc : Str → Bool
  fr : List Str
  fn : List (Str × (Nat × Nat))
  cs : List (Str × ML.D)
/-- how a context stands to it -/
structure Ok (c : Cn) (W : WX) (cl : Nat → List ML.D → ML.St → ML.Out ML.D) (k : Nat) (C : CEnv) (X : Cx) : Prop where
  N : X.N = C.N
  sc : X.env.scope = C.sc
  K : X.K = c.K
  nd : X.N.Nodup
  calm : X.calm = true
  tk : L2.Takes X W
  room : Room k X.A
  lc : ∀ x, C.lc x = true → L2.Loc X.env.scope x ∧ (X.fn x = true ∨ X.env.scope.names.lookup x = some .local)
  gl : ∀ x, C.fr.contains x = true → X.mg x = none
  fn : ∀ x f ar, C.fn.lookup x = some (f, ar) → ∃ a fd ps, X.mg x = some (.ref a) ∧ PySem.W.keepIn X.K (.ref a) = true ∧ L2.Binds X.K fd ps [] ∧ ps.length = ar ∧ ∃ sp, FnOk X.prog X.w X.K X.mg X.base (L2.CX X.prog X.w) k a fd ps sp ∧ ∀ vs H Q E, spF c (cl f) vs H Q E → vs.length = ps.length → sp vs H Q E
  cs : ∀ x d, C.cs.lookup x = some d → ∃ v u, X.mg x = some u ∧ RelV v u ∧ ∀ ρ H, RD c ρ H d v
structure Rc where
  E : CEnv → Expr → Option ML.E
  T : CEnv → Expr → Option ML.E
  N : CEnv → Expr → Option ML.L
structure Snd (T : ML.Tab) (c : Cn) (cl : Nat → List ML.D → ML.St → ML.Out ML.D) (k : Nat) (R : Rc) : Prop where
  E : ∀ {C : CEnv} {X : Cx} {W : WX}, Ok c W cl k C X → ∀ {e m}, R.E C e = some m → PE X e (tE c W (ML.evE T cl m))
  Te : ∀ {C : CEnv} {X : Cx} {W : WX}, Ok c W cl k C X → ∀ {e m}, R.T C e = some m → PT X e (tT c W (tst (ML.evE T cl m)))
  N : ∀ {C : CEnv} {X : Cx} {W : WX}, Ok c W cl k C X → ∀ {e m}, R.N C e = some m → PE X e (tN c W (ML.evL T cl m)) ∧ newL m = true
def isStar : Expr → Bool
  | .Starred _ _ => true
  | _ => false
theorem not_star {e : Expr} (h : isStar e = false) : ∀ x p, e ≠ .Starred x p := fun x p z => by subst z; cases h
def isSet : Expr → Bool
  | .Set _ _ _ => true
  | _ => false
theorem folded_of {e : Expr} {env : Env} (h : isSet e = false) : ∀ x, foldedSetIterable e env x = pure x := fun x => by cases e <;> first | rfl | cases h
theorem behind_of {op : CmpOp} {e : Expr} (h : isSet e = false) : behindInMarks op e = false := by cases e <;> first | rfl | cases h
def isComp : Expr → Bool
  | .ListComp _ _ _ _ | .SetComp _ _ _ _ | .DictComp _ _ _ _ _ => true
  | _ => false
theorem swaps_of {e : Expr} {t : Option Expr} {n : Nat} {env : Env} (h : isComp e = false) : swapsWith e t n env = pure false := by cases e <;> first | rfl | cases h
def isCall : Expr → Bool
  | .Call _ _ _ _ => true
  | _ => false
theorem base_of {o : Expr} {a : Str} {env : Env} {w : Sem Value} (h : isCall o = false) : attributeBase o a env w = w := by cases o <;> first | rfl | cases h
/-- a list by its form -/
def listy : Expr → Bool
  | .List _ _ => true
  | .ListComp _ _ _ _ => true
  | .BinOp a .Add b _ => listy a || listy b
  | .Subscript a (.Slice _ _ _ _) _ => listy a
  | _ => false
def isNew : Expr → Bool
  | .List _ _ => true
  | .ListComp _ _ _ _ => true
  | .BinOp _ .Add _ _ => true
  | .Subscript _ (.Slice _ _ _ _) _ => true
  | _ => false
def ixOf (N : List Str) (x : Str) : Option Nat := (N.findIdx? (· == x)).bind fun i => if N[i]? = some x then some i else none
theorem ixOf_get {N : List Str} {x : Str} {i : Nat} (h : ixOf N x = some i) : N[i]? = some x := by
  unfold ixOf at h
  obtain ⟨j, _, h⟩ := Option.bind_eq_some_iff.mp h
  split at h
  · cases h; assumption
  · cases h
def visB (sc : Scope) (x : Str) : Bool := match sc.names.lookup x with
  | some .local | some .cell | some .free => true
  | _ => false
theorem vis_of {sc : Scope} {x : Str} (h : visB sc x = true) : L2.Vis sc x := by
  unfold visB at h
  unfold L2.Vis
  split at h <;> first | (rename_i e; rw [e]; simp; done) | cases h
def glB (C : CEnv) (x : Str) : Bool := decide (C.sc.names.lookup x = some .globalImplicit) && !(x == ("__debug__" : Str))
/-- a built-in's name -/
def btB (C : CEnv) (x : Str) : Bool := glB C x && C.fr.contains x
def cConst : Const → Option ML.D
  | .none => some .non
  | .bool b => some (.bl b)
  | .int i => some (.int i)
  | .str s => if (s.cps.toList.all fun k => decide (k < 0x110000)) && decide (s.cps.toList.length ≤ ML.lim) then some (.str s.cps.toList) else none
  | _ => none
def nameE (C : CEnv) (x : Str) : Option ML.E :=
  if visB C.sc x && !(x == ("__debug__" : Str)) && !(x == ("__classdict__" : Str)) then (ixOf C.N x).map .var
  else if glB C x then (C.cs.lookup x).map .cst else none
section
variable {T : ML.Tab} {c : Cn} {cl : Nat → List ML.D → ML.St → ML.Out ML.D} {k : Nat} {R : Rc} {C : CEnv} {X : Cx} {W : WX}
theorem Ok.u1 (o : Ok c W cl k C X) : X.A.units + 1 < cLine := by have := o.room.un; omega
theorem Ok.u64 (o : Ok c W cl k C X) : X.A.units + 64 < cLine := by have := o.room.un; omega
theorem Ok.gl_of (o : Ok c W cl k C X) {x : Str} (h : glB C x = true) : Gl X x ∧ (x == ("__debug__" : Str)) = false := by
  unfold glB at h
  simp only [Bool.and_eq_true, decide_eq_true_eq, Bool.not_eq_true'] at h
  exact ⟨by show X.env.scope.names.lookup x = _; rw [o.sc]; exact h.1, h.2⟩
theorem Ok.bt_of (o : Ok c W cl k C X) {x : Str} (h : btB C x = true) : Gl X x ∧ (x == ("__debug__" : Str)) = false ∧ X.mg x = none := by
  unfold btB at h
  simp only [Bool.and_eq_true] at h
  obtain ⟨a, b⟩ := o.gl_of h.1
  exact ⟨a, b, o.gl x h.2⟩
theorem name_snd (o : Ok c W cl k C X) {x : Str} {p : Pos} {m : ML.E} (h : nameE C x = some m) : PE X (.Name x p) (tE c W (ML.evE T cl m)) := by
  unfold nameE at h
  split at h
  · rename_i hv
    simp only [Bool.and_eq_true, Bool.not_eq_true'] at hv
    obtain ⟨i, e, e2⟩ := Option.map_eq_some_iff.mp h
    subst e2
    exact e_var (by rw [o.N]; exact ixOf_get e) (by rw [o.sc]; exact vis_of hv.1.1) hv.1.2 hv.2
  · split at h
    · rename_i hg
      obtain ⟨d, e, e2⟩ := Option.map_eq_some_iff.mp h
      subst e2
      obtain ⟨v, u, h1, h2, h3⟩ := o.cs x d e
      obtain ⟨g1, g2⟩ := o.gl_of hg
      exact e_tC (L2.pe_glob g1 h1 h2 g2) h3
    · cases h
theorem const_snd {v : Const} {d : ML.D} {j : Nat} {p : Pos} (h : cConst v = some d) : PE X (.Constant v j p) (tE c W (ML.evE T cl (.cst d))) := by
  cases v with
  | none => cases h; exact e_tC L2.pe_non fun _ _ => by simp [RD]
  | bool b => cases h; exact e_tC L2.pe_bl fun _ _ => by simp [RD]
  | int i => cases h; exact e_tC L2.pe_int fun _ _ => by simp [RD]
  | str s =>
    unfold cConst at h
    dsimp only at h
    split at h
    · rename_i hs
      cases h
      simp only [Bool.and_eq_true, List.all_eq_true, decide_eq_true_eq] at hs
      exact e_tC L2.pe_str fun _ _ => by
        simp only [RD]
        exact ⟨rfl, hs.1, by have := hs.2; omega⟩
    · cases h
  | _ => cases h
/-! ### several, lists -/
def lE (R : Rc) (C : CEnv) (e : Expr) : Option ML.L := if isNew e then R.N C e else (R.E C e).map .ofE
theorem l_snd (s : Snd T c cl k R) (o : Ok c W cl k C X) {e : Expr} {m : ML.L} (h : lE R C e = some m) : PE X e (tL c W (ML.evL T cl m)) := by
  unfold lE at h
  split at h
  · obtain ⟨a, b⟩ := s.N o h
    exact l_of_n (fun _ _ _ _ e _ => evL_new b e) a
  · obtain ⟨a, e1, e2⟩ := Option.map_eq_some_iff.mp h
    subst e2
    exact l_ofE (s.E o e1)
def esE (R : Rc) (C : CEnv) : List Expr → Option ML.Es
  | [] => some .nil
  | e :: r => if isStar e then none else (R.E C e).bind fun x => (esE R C r).map (.cons x ·)
theorem es_snd (s : Snd T c cl k R) (o : Ok c W cl k C X) : ∀ {es : List Expr} {m : ML.Es}, esE R C es = some m → PA X es (tA c W (ML.evEs T cl m)) ∧ eslen m = es.length ∧ ∀ e ∈ es, isStar e = false
  | [], m, h => by cases h; exact ⟨a_nil, rfl, fun _ z => nomatch z⟩
  | e :: r, m, h => by
    unfold esE at h
    split at h
    · cases h
    · rename_i hs
      obtain ⟨x, e1, h⟩ := Option.bind_eq_some_iff.mp h
      obtain ⟨y, e2, h⟩ := Option.map_eq_some_iff.mp h
      subst h
      obtain ⟨a, b, d⟩ := es_snd s o e2
      have hs : isStar e = false := by simpa using hs
      refine ⟨a_cons (not_star hs) (s.E o e1) a, by simp [eslen, b], fun z hz => ?_⟩
      rcases List.mem_cons.mp hz with q | q
      · rw [q]; exact hs
      · exact d z q
theorem star_any {env : Env} {pos : Pos} : ∀ {es : List Expr}, (∀ e ∈ es, isStar e = false) → (backTo pos (starEach es env)).any (·.1) = false
  | [], _ => rfl
  | e :: r, h => by
    rw [starEach_cons (not_star (h e (by simp)))]
    have := star_any (env := env) (pos := pos) (es := r) fun z hz => h z (List.mem_cons_of_mem _ hz)
    simp only [backTo, List.map_cons, List.any_cons, Bool.false_or] at this ⊢
    exact this
/-! ### operators -/
def bopOf : Operator → Option ML.Bop
  | .Add => some .add | .Sub => some .sub | .Mult => some .mul | .FloorDiv => some .fdiv | .Mod => some .mod | .Pow => some .pow
  | _ => none
theorem bop_snd (o : Ok c W cl k C X) {op : Operator} {b : ML.Bop} (h : bopOf op = some b) : OpR X (binaryOp op) (rB c (ML.binD b)) := by
  cases op <;> first
    | (cases h; exact op_addM o.K) | (cases h; exact op_subM) | (cases h; exact op_mulM) | (cases h; exact op_fdivM) | (cases h; exact op_modM) | (cases h; exact op_powM)
    | cases h
def copOf : CmpOp → Option ML.Cop
  | .Eq => some .eq | .NotEq => some .ne | .Lt => some .lt | .LtE => some .le | .Gt => some .gt | .GtE => some .ge | .In => some .isin | .NotIn => some .notin
  | _ => none
theorem cop_snd (o : Ok c W cl k C X) {op : CmpOp} {b : ML.Cop} (h : copOf op = some b) : OpR X (compareOp op) (rC c (ML.cmpD b)) := by
  cases op <;> first
    | (cases h; exact op_eqM o.K o.u64) | (cases h; exact op_neM o.K o.u64) | (cases h; exact op_ltM) | (cases h; exact op_leM) | (cases h; exact op_gtM) | (cases h; exact op_geM)
    | (cases h; exact op_inM o.K o.u1) | (cases h; exact op_notinM o.K o.u1)
    | cases h
def isNone : Expr → Bool
  | .Constant .none _ _ => true
  | _ => false
def cmpE (R : Rc) (C : CEnv) (a : Expr) (op : CmpOp) (b : Expr) : Option ML.E :=
  if isSet b then none else
  match op with
  | .Is => if isNone b then (R.E C a).map (.isn false) else none
  | .IsNot => if isNone b then (R.E C a).map (.isn true) else none
  | .Eq => if listy a || listy b then (lE R C a).bind fun x => (lE R C b).map fun y => .cmpL false x y else (R.E C a).bind fun x => (R.E C b).map fun y => .cmp .eq x y
  | .NotEq => if listy a || listy b then (lE R C a).bind fun x => (lE R C b).map fun y => .cmpL true x y else (R.E C a).bind fun x => (R.E C b).map fun y => .cmp .ne x y
  | .In => if listy b then (R.E C a).bind fun x => (lE R C b).map fun y => .inL false x y else (R.E C a).bind fun x => (R.E C b).map fun y => .cmp .isin x y
  | .NotIn => if listy b then (R.E C a).bind fun x => (lE R C b).map fun y => .inL true x y else (R.E C a).bind fun x => (R.E C b).map fun y => .cmp .notin x y
  | op => (copOf op).bind fun o => (R.E C a).bind fun x => (R.E C b).map fun y => .cmp o x y
theorem none_snd {b : Expr} (h : isNone b = true) : PE X b (L2.tC .non) := by
  cases b <;> first | cases h | skip
  rename_i v j p
  cases v <;> first | (cases h; done) | exact L2.pe_non
theorem cmp_snd (s : Snd T c cl k R) (o : Ok c W cl k C X) {a b : Expr} {op : CmpOp} {pos : Pos} {m : ML.E} (h : cmpE R C a op b = some m) :
    PE X (.Compare a [op] [b] pos) (tE c W (ML.evE T cl m)) ∧ PT X (.Compare a [op] [b] pos) (tT c W (tst (ML.evE T cl m))) := by
  unfold cmpE at h
  split at h
  · cases h
  · rename_i hset
    have hm : behindInMarks op b = false := behind_of (by simpa using hset)
    have A : ∀ cop, copOf op = some cop → ∀ {m}, ((R.E C a).bind fun x => (R.E C b).map fun y => ML.E.cmp cop x y) = some m → PE X (.Compare a [op] [b] pos) (tE c W (ML.evE T cl m)) ∧ PT X (.Compare a [op] [b] pos) (tT c W (tst (ML.evE T cl m))) := fun cop hc m h => by
      obtain ⟨x, e1, h⟩ := Option.bind_eq_some_iff.mp h
      obtain ⟨y, e2, h⟩ := Option.map_eq_some_iff.mp h
      subst h
      exact ⟨e_cmp (cop_snd o hc) hm (s.E o e1) (s.E o e2), t_cmp (cop_snd o hc) hm (s.E o e1) (s.E o e2)⟩
    have B : ∀ ne, OpR X (compareOp op) (rCL c ne) → ∀ {m}, ((lE R C a).bind fun x => (lE R C b).map fun y => ML.E.cmpL ne x y) = some m → PE X (.Compare a [op] [b] pos) (tE c W (ML.evE T cl m)) ∧ PT X (.Compare a [op] [b] pos) (tT c W (tst (ML.evE T cl m))) := fun ne ho m h => by
      obtain ⟨x, e1, h⟩ := Option.bind_eq_some_iff.mp h
      obtain ⟨y, e2, h⟩ := Option.map_eq_some_iff.mp h
      subst h
      exact ⟨e_cmpL ho hm (l_snd s o e1) (l_snd s o e2) fun _ _ _ _ e => evL_ok e, t_cmpL ho hm (l_snd s o e1) (l_snd s o e2) fun _ _ _ _ e => evL_ok e⟩
    have D : ∀ neg, OpR X (compareOp op) (rInL c neg) → ∀ {m}, ((R.E C a).bind fun x => (lE R C b).map fun y => ML.E.inL neg x y) = some m → PE X (.Compare a [op] [b] pos) (tE c W (ML.evE T cl m)) ∧ PT X (.Compare a [op] [b] pos) (tT c W (tst (ML.evE T cl m))) := fun ne ho m h => by
      obtain ⟨x, e1, h⟩ := Option.bind_eq_some_iff.mp h
      obtain ⟨y, e2, h⟩ := Option.map_eq_some_iff.mp h
      subst h
      exact ⟨e_inL ho hm (s.E o e1) (l_snd s o e2) fun _ _ _ _ e => evL_ok e, t_inL ho hm (s.E o e1) (l_snd s o e2) fun _ _ _ _ e => evL_ok e⟩
    cases op with
    | Is =>
      dsimp only at h
      split at h
      · rename_i hb
        obtain ⟨x, e1, h⟩ := Option.map_eq_some_iff.mp h
        subst h
        exact ⟨e_isn (neg := false) L2.op_isN hm (s.E o e1) (none_snd hb), t_isn (neg := false) L2.op_isN hm (s.E o e1) (none_snd hb)⟩
      · cases h
    | IsNot =>
      dsimp only at h
      split at h
      · rename_i hb
        obtain ⟨x, e1, h⟩ := Option.map_eq_some_iff.mp h
        subst h
        exact ⟨e_isn (neg := true) L2.op_notN hm (s.E o e1) (none_snd hb), t_isn (neg := true) L2.op_notN hm (s.E o e1) (none_snd hb)⟩
      · cases h
    | Eq =>
      dsimp only at h
      split at h
      · exact B _ (op_eqL o.K o.u64) h
      · exact A _ rfl h
    | NotEq =>
      dsimp only at h
      split at h
      · exact B _ (op_neL o.K o.u64) h
      · exact A _ rfl h
    | In =>
      dsimp only at h
      split at h
      · exact D _ (op_inL o.K) h
      · exact A _ rfl h
    | NotIn =>
      dsimp only at h
      split at h
      · exact D _ (op_notinL o.K) h
      · exact A _ rfl h
    | Lt => exact A _ rfl h
    | LtE => exact A _ rfl h
    | Gt => exact A _ rfl h
    | GtE => exact A _ rfl h
/-! ### and, or -/
def boolE (f : Expr → Option ML.E) (mk : ML.E → ML.E → ML.E) : List Expr → Option ML.E
  | [] => none
  | [a] => f a
  | a :: b :: r => (f a).bind fun x => (boolE f mk (b :: r)).map fun y => mk x y
theorem and_snd (s : Snd T c cl k R) (o : Ok c W cl k C X) {pos : Pos} : ∀ {es : List Expr} {m : ML.E}, boolE (R.E C) .and es = some m → PE X (.BoolOp .And es pos) (tE c W (ML.evE T cl m))
  | [], m, h => by cases h
  | [a], m, h => e_one (s.E o h)
  | a :: b :: r, m, h => by
    obtain ⟨x, e1, h⟩ := Option.bind_eq_some_iff.mp h
    obtain ⟨y, e2, h⟩ := Option.map_eq_some_iff.mp h
    subst h
    exact e_and (s.E o e1) (and_snd s o e2)
theorem or_snd (s : Snd T c cl k R) (o : Ok c W cl k C X) {pos : Pos} : ∀ {es : List Expr} {m : ML.E}, boolE (R.E C) .or es = some m → PE X (.BoolOp .Or es pos) (tE c W (ML.evE T cl m))
  | [], m, h => by cases h
  | [a], m, h => e_one (s.E o h)
  | a :: b :: r, m, h => by
    obtain ⟨x, e1, h⟩ := Option.bind_eq_some_iff.mp h
    obtain ⟨y, e2, h⟩ := Option.map_eq_some_iff.mp h
    subst h
    exact e_or (s.E o e1) (or_snd s o e2)
theorem andT_snd (s : Snd T c cl k R) (o : Ok c W cl k C X) {pos : Pos} : ∀ {es : List Expr} {m : ML.E}, boolE (R.T C) .and es = some m → PW X (.BoolOp .And es pos) (tT c W (tst (ML.evE T cl m)))
  | [], m, h => by cases h
  | [a], m, h => w_and1 (s.Te o h)
  | a :: b :: r, m, h => by
    obtain ⟨x, e1, h⟩ := Option.bind_eq_some_iff.mp h
    obtain ⟨y, e2, h⟩ := Option.map_eq_some_iff.mp h
    subst h
    exact w_and (s.Te o e1) (andT_snd s o e2)
theorem orT_snd (s : Snd T c cl k R) (o : Ok c W cl k C X) {pos : Pos} : ∀ {es : List Expr} {m : ML.E}, boolE (R.T C) .or es = some m → PW X (.BoolOp .Or es pos) (tT c W (tst (ML.evE T cl m)))
  | [], m, h => by cases h
  | [a], m, h => w_or1 (s.Te o h)
  | a :: b :: r, m, h => by
    obtain ⟨x, e1, h⟩ := Option.bind_eq_some_iff.mp h
    obtain ⟨y, e2, h⟩ := Option.map_eq_some_iff.mp h
    subst h
    exact w_or (s.Te o e1) (orT_snd s o e2)
end
end MS
end
section
set_option linter.all false
set_option maxRecDepth 100000
set_option maxHeartbeats 1000000
/-! MS20: calls, methods, subscripts. -/
namespace MS
open PySem
open L2 (V Hp HO SqL SqT Rd upd upd_same upd_ne RelV Vals TE TA TT TS TI TG TGs VK XK WX Cx Inv PE PT PW PA PS PSs PI PG PGs OpR It Turn PIE PTs CallR MtR Gl Ends FnOk Room XK Sp)
/-! ### calls -/
def tyOf (C : CEnv) : Expr → Option ML.Ty
  | .Name x _ => if btB C x then (if x = "str" then some .str else if x = "int" then some .int else if x = "bool" then some .bool else if x = "tuple" then some .tup else none) else none
  | _ => none
def tysOf (C : CEnv) : List Expr → Option (List ML.Ty)
  | [] => some []
  | e :: r => (tyOf C e).bind fun t => (tysOf C r).map (t :: ·)
def blt1 (R : Rc) (C : CEnv) (x : Str) (a : Expr) : Option ML.E :=
  if x = "len" then (if isNew a then (R.N C a).map (.bl1 .len) else (R.E C a).map fun m => .blt .len (.cons m .nil))
  else if x = "tuple" then (if isNew a then (R.N C a).map (.bl1 .tup) else (R.E C a).map fun m => .blt .tup (.cons m .nil))
  else if x = "int" then (R.E C a).map fun m => .blt .int (.cons m .nil)
  else if x = "abs" then (R.E C a).map fun m => .blt .abs (.cons m .nil)
  else if x = "str" then (R.E C a).map fun m => .blt .str (.cons m .nil)
  else if x = "all" then (lE R C a).map (.bl1 .all)
  else if x = "any" then (lE R C a).map (.bl1 .any)
  else if x = "sum" then (lE R C a).map (.bl1 .sum)
  else none
def isTup : Expr → Option (List Expr)
  | .Tuple es _ _ => some es
  | _ => none
def blt2 (R : Rc) (C : CEnv) (x : Str) (a b : Expr) : Option ML.E :=
  if x = "max" then (esE R C [a, b]).map (.blt .max2)
  else if x = "min" then (esE R C [a, b]).map (.blt .min2)
  else if x = "isinstance" then match isTup b with
    | some es => if es.length ≤ 1000 then (R.E C a).bind fun m => (tysOf C es).bind fun ts => if ts.isEmpty then none else some (.isi m ts) else none
    | none => (R.E C a).bind fun m => (tyOf C b).map fun t => .isi m [t]
  else none
def callE (R : Rc) (C : CEnv) (x : Str) (args : List Expr) : Option ML.E :=
  if glB C x then match C.fn.lookup x with
    | some (f, ar) => if !args.isEmpty && decide (args.length = ar) then (esE R C args).map (.call f) else none
    | none => if !(x == ("__name__" : Str)) && C.fr.contains x then match args with
      | [a] => if isStar a then none else blt1 R C x a
      | [a, b] => if isStar a || isStar b then none else blt2 R C x a b
      | _ => none else none
  else none
section
variable {T : ML.Tab} {c : Cn} {cl : Nat → List ML.D → ML.St → ML.Out ML.D} {k : Nat} {R : Rc} {C : CEnv} {X : Cx} {W : WX}
theorem ty_snd (o : Ok c W cl k C X) {e : Expr} {t : ML.Ty} (h : tyOf C e = some t) : PE X e (L2.tC (.ty (tyN t))) ∧ plainTy t = true ∧ isStar e = false ∧ isTup e = none := by
  cases e with
  | Name x p =>
    unfold tyOf at h
    dsimp only at h
    split at h
    · rename_i hb
      obtain ⟨h1, h2, h3⟩ := o.bt_of hb
      split at h
      · rename_i e; subst e; cases h
        exact ⟨L2.pe_bltn h1 h3 PyProof.Rows.boot_str rfl, rfl, rfl, rfl⟩
      · split at h
        · rename_i e; subst e; cases h
          exact ⟨L2.pe_bltn h1 h3 PyProof.Rows.boot_int rfl, rfl, rfl, rfl⟩
        · split at h
          · rename_i e; subst e; cases h
            exact ⟨L2.pe_bltn h1 h3 PyProof.Rows.boot_bool rfl, rfl, rfl, rfl⟩
          · split at h
            · rename_i e; subst e; cases h
              exact ⟨L2.pe_bltn h1 h3 PyProof.Rows.boot_tuple rfl, rfl, rfl, rfl⟩
            · cases h
    · cases h
  | _ => cases h
theorem tys_snd (o : Ok c W cl k C X) : ∀ {es : List Expr} {ts : List ML.Ty}, tysOf C es = some ts → PA X es (tTys ts) ∧ ts.all plainTy = true ∧ ts.length = es.length
  | [], ts, h => by cases h; exact ⟨L2.pa_nil, rfl, rfl⟩
  | e :: r, ts, h => by
    obtain ⟨t, e1, h⟩ := Option.bind_eq_some_iff.mp h
    obtain ⟨us, e2, h⟩ := Option.map_eq_some_iff.mp h
    subst h
    obtain ⟨a1, a2, a3, _⟩ := ty_snd o e1
    obtain ⟨b1, b2, b3⟩ := tys_snd o e2
    exact ⟨L2.pa_cons a1 b1 (starEach_cons (not_star a3)), by simp [a2, b2], by simp [b3]⟩
/-- one argument -/
theorem arg1 {e : Expr} {m : ML.E} (s : Snd T c cl k R) (o : Ok c W cl k C X) (hs : isStar e = false) (h : R.E C e = some m) : PA X [e] (tA c W (ML.evEs T cl (.cons m .nil))) :=
  a_cons (not_star hs) (s.E o h) a_nil
theorem blt1_snd (s : Snd T c cl k R) (o : Ok c W cl k C X) {x : Str} {a : Expr} {p pos : Pos} {m : ML.E} (hg : Gl X x) (hd : (x == ("__debug__" : Str)) = false) (hn : x ≠ "__name__") (hm : X.mg x = none) (hs : isStar a = false) (h : blt1 R C x a = some m) :
    PE X (.Call (.Name x p) [a] [] pos) (tE c W (ML.evE T cl m)) := by
  have st := starEach_cons (env := X.env) (es := []) (not_star hs)
  have pl : (backTo pos (starEach ([] : List Expr) X.env)).any (·.1) = false := rfl
  have B : ∀ {id : String} {r : List V → Hp → VK → Prop}, CallR X (.builtin id) r → bootBuiltins x = some (.builtin id) → ∀ t, PA X [a] t → PE X (.Call (.Name x p) [a] [] pos) (L2.tCB r t) := fun hc hv t ha => L2.pe_callB hc hg hm hv ha hn hd st pl
  have Y : ∀ {id : String} {r : List V → Hp → VK → Prop}, CallR X (.type id) r → bootBuiltins x = some (.type id) → ∀ t, PA X [a] t → PE X (.Call (.Name x p) [a] [] pos) (L2.tCB r t) := fun hc hv t ha => L2.pe_callTy hc hg hm hv ha hn hd st pl
  have LL : ∀ {l : ML.L}, lE R C a = some l → PE X a (tL c W (ML.evL T cl l)) := fun h => l_snd s o h
  have NN : ∀ {l : ML.L}, isNew a = true → R.N C a = some l → lE R C a = some l := fun h1 h2 => by unfold lE; rw [if_pos h1]; exact h2
  unfold blt1 at h
  split at h
  · rename_i e; subst e
    split at h
    · rename_i hw
      obtain ⟨l, e1, h⟩ := Option.map_eq_some_iff.mp h
      subst h
      exact e_callL (LL (NN hw e1)) (not_star hs) (fun _ _ _ _ e => evL_ok e) (B (l_len o.K) (by decide +kernel))
    · obtain ⟨l, e1, h⟩ := Option.map_eq_some_iff.mp h
      subst h
      exact e_call (arg1 s o hs e1) (B (b_len o.K) (by decide +kernel))
  split at h
  · rename_i e; subst e
    split at h
    · rename_i hw
      obtain ⟨l, e1, h⟩ := Option.map_eq_some_iff.mp h
      subst h
      exact e_callL (LL (NN hw e1)) (not_star hs) (fun _ _ _ _ e => evL_ok e) (Y (l_tup o.K) PyProof.Rows.boot_tuple)
    · obtain ⟨l, e1, h⟩ := Option.map_eq_some_iff.mp h
      subst h
      exact e_call (arg1 s o hs e1) (Y (b_tup o.K) PyProof.Rows.boot_tuple)
  split at h
  · rename_i e; subst e
    obtain ⟨l, e1, h⟩ := Option.map_eq_some_iff.mp h
    subst h
    exact e_call (arg1 s o hs e1) (Y b_int PyProof.Rows.boot_int)
  split at h
  · rename_i e; subst e
    obtain ⟨l, e1, h⟩ := Option.map_eq_some_iff.mp h
    subst h
    exact e_call (arg1 s o hs e1) (B b_abs PyProof.Rows.boot_abs)
  split at h
  · rename_i e; subst e
    obtain ⟨l, e1, h⟩ := Option.map_eq_some_iff.mp h
    subst h
    exact e_call (arg1 s o hs e1) (Y b_str PyProof.Rows.boot_str)
  split at h
  · rename_i e; subst e
    obtain ⟨l, e1, h⟩ := Option.map_eq_some_iff.mp h
    subst h
    exact e_callL (LL e1) (not_star hs) (fun _ _ _ _ e => evL_ok e) (B (l_all o.K o.calm) PyProof.Rows.boot_all)
  split at h
  · rename_i e; subst e
    obtain ⟨l, e1, h⟩ := Option.map_eq_some_iff.mp h
    subst h
    exact e_callL (LL e1) (not_star hs) (fun _ _ _ _ e => evL_ok e) (B (l_any o.K o.calm) PyProof.Rows.boot_any)
  split at h
  · rename_i e; subst e
    obtain ⟨l, e1, h⟩ := Option.map_eq_some_iff.mp h
    subst h
    exact e_callL (LL e1) (not_star hs) (fun _ _ _ _ e => evL_ok e) (B (l_sum o.K o.calm) PyProof.Rows.boot_sum)
  · cases h
theorem blt2_snd (s : Snd T c cl k R) (o : Ok c W cl k C X) {x : Str} {a b : Expr} {p pos : Pos} {m : ML.E} (hg : Gl X x) (hd : (x == ("__debug__" : Str)) = false) (hn : x ≠ "__name__") (hm : X.mg x = none) (hs : isStar a = false) (hs2 : isStar b = false) (h : blt2 R C x a b = some m) :
    PE X (.Call (.Name x p) [a, b] [] pos) (tE c W (ML.evE T cl m)) := by
  have st := starEach_cons (env := X.env) (es := [b]) (not_star hs)
  have pl : (backTo pos (starEach [b] X.env)).any (·.1) = false := star_any fun z hz => by
    rw [List.mem_singleton.mp hz]; exact hs2
  have B : ∀ {id : String} {r : List V → Hp → VK → Prop}, CallR X (.builtin id) r → bootBuiltins x = some (.builtin id) → ∀ t, PA X [a, b] t → PE X (.Call (.Name x p) [a, b] [] pos) (L2.tCB r t) := fun hc hv t ha => L2.pe_callB hc hg hm hv ha hn hd st pl
  unfold blt2 at h
  split at h
  · rename_i e; subst e
    obtain ⟨l, e1, h⟩ := Option.map_eq_some_iff.mp h
    subst h
    exact e_call (es_snd s o e1).1 (B (b_max2 o.calm) PyProof.Rows.boot_max)
  split at h
  · rename_i e; subst e
    obtain ⟨l, e1, h⟩ := Option.map_eq_some_iff.mp h
    subst h
    exact e_call (es_snd s o e1).1 (B (b_min2 o.calm) PyProof.Rows.boot_min)
  split at h
  · rename_i e; subst e
    cases hb : isTup b with
    | some es =>
      rw [hb] at h
      dsimp only at h
      split at h
      · rename_i hz
        obtain ⟨l, e1, h⟩ := Option.bind_eq_some_iff.mp h
        obtain ⟨ts, e2, h⟩ := Option.bind_eq_some_iff.mp h
        split at h
        · cases h
        · rename_i hne
          cases h
          cases ts with
          | nil => exact absurd rfl hne
          | cons t ts =>
            cases b <;> first | cases hb | skip
            obtain ⟨q1, q2, q3⟩ := tys_snd o e2
            exact e_isN (sub := T.sub) (by rw [q3]; exact hz) (s.E o e1) q1 (not_star hs) (B (is_N o.K q2) PyProof.Rows.boot_isinstance)
      · cases h
    | none =>
      rw [hb] at h
      dsimp only at h
      obtain ⟨l, e1, h⟩ := Option.bind_eq_some_iff.mp h
      obtain ⟨t, e2, h⟩ := Option.map_eq_some_iff.mp h
      subst h
      obtain ⟨q1, q2, q3, _⟩ := ty_snd o e2
      exact e_is1 (sub := T.sub) o.K (s.E o e1) q1 (not_star hs) (not_star hs2) (B (is_1 o.K q2) PyProof.Rows.boot_isinstance)
  · cases h
theorem call_snd (s : Snd T c cl k R) (o : Ok c W cl k C X) {x : Str} {args : List Expr} {p pos : Pos} {m : ML.E} (h : callE R C x args = some m) : PE X (.Call (.Name x p) args [] pos) (tE c W (ML.evE T cl m)) := by
  unfold callE at h
  split at h
  · rename_i hg
    obtain ⟨g1, g2⟩ := o.gl_of hg
    cases hf : C.fn.lookup x with
    | some fa =>
      obtain ⟨f, ar⟩ := fa
      rw [hf] at h
      dsimp only at h
      split at h
      · rename_i hc
        simp only [Bool.and_eq_true, Bool.not_eq_true', decide_eq_true_eq] at hc
        obtain ⟨l, e1, h⟩ := Option.map_eq_some_iff.mp h
        subst h
        obtain ⟨q1, q2, q3⟩ := es_snd s o e1
        obtain ⟨a, fd, ps, m1, m2, m3, m4, sp, F, hsp⟩ := o.fn x f ar hf
        cases args with
        | nil => cases hc.1
        | cons e es =>
          exact e_fn F hsp (fun _ _ _ _ h => by rw [evEs_len _ _ _ _ _ h, q2, m4]; exact hc.2) o.room g1 m1 m2 m3 o.tk (not_star (q3 e (by simp))) q1 g2 (star_any fun z hz => q3 z (List.mem_cons_of_mem _ hz))
      · cases h
    | none =>
      rw [hf] at h
      dsimp only at h
      split at h
      · rename_i hc
        simp only [Bool.and_eq_true, Bool.not_eq_true', beq_eq_false_iff_ne, ne_eq] at hc
        have hm := o.gl x hc.2
        match args, h with
        | [a], h =>
          dsimp only at h
          split at h
          · cases h
          · rename_i hs
            exact blt1_snd s o g1 g2 hc.1 hm (by simpa using hs) h
        | [a, b], h =>
          dsimp only at h
          split at h
          · cases h
          · rename_i hs
            simp only [Bool.or_eq_true, not_or, Bool.not_eq_true] at hs
            exact blt2_snd s o g1 g2 hc.1 hm hs.1 hs.2 h
        | [], h => cases h
        | _ :: _ :: _ :: _, h => cases h
      · cases h
  · cases h
end
end MS
end
section
set_option linter.all false
set_option maxRecDepth 100000
set_option maxHeartbeats 1000000
/-! MS21: methods, subscripts, targets, comprehensions, all expressions. -/
namespace MS
open PySem
open L2 (V Hp HO SqL SqT Rd upd upd_same upd_ne RelV Vals TE TA TT TS TI TG TGs VK XK WX Cx Inv PE PT PW PA PS PSs PI PG PGs OpR It Turn PIE PTs CallR MtR Gl Ends FnOk Room XK Sp)
def methE (R : Rc) (C : CEnv) (o : Expr) (m : Str) (apos : Pos) (args : List Expr) (cpos : Pos) : Option ML.E :=
  if isCall o || !(apos.endLine == cpos.line) then none else
  match args with
  | [a] => if isStar a then none else
    if m = "append" then (R.E C o).bind fun x => (R.E C a).map fun y => .mth .append x (.cons y .nil)
    else if m = "extend" then (R.E C o).bind fun x => (lE R C a).map fun y => .mthL .extend x y
    else if m = "join" then (R.E C o).bind fun x => (lE R C a).map fun y => .mthL .join x y
    else none
  | [a, b] => if m = "get" then (R.E C o).bind fun x => (esE R C [a, b]).map fun y => .mth .get x y
    else if m = "setdefault" then (R.E C o).bind fun x => (esE R C [a, b]).map fun y => .mth .setdefault x y
    else none
  | _ => none
def isM1 : Expr → Bool
  | .UnaryOp .USub (.Constant (.int 1) _ _) _ => true
  | _ => false
def isSlice : Expr → Bool
  | .Slice _ _ _ _ => true
  | _ => false
def oE (R : Rc) (C : CEnv) : Option Expr → Option ML.EO
  | none => some .none
  | some e => (R.E C e).map .some
section
variable {T : ML.Tab} {c : Cn} {cl : Nat → List ML.D → ML.St → ML.Out ML.D} {k : Nat} {R : Rc} {C : CEnv} {X : Cx} {W : WX}
theorem few_of {env : Env} {pos : Pos} {es : List Expr} (h : ∀ e ∈ es, isStar e = false) (hl : es.length < 29) : ((backTo pos (starEach es env)).all (fun x => !x.1) && (backToKw pos (keywordEach [] env)).all (fun x => x.1.isSome)
      && decide (es.length + ([] : List Keyword).length + (if ([] : List Keyword).isEmpty then 0 else 1) < 30)) = true := by
  have := star_any (env := env) (pos := pos) h
  rw [Bool.and_eq_true, Bool.and_eq_true]
  refine ⟨⟨?_, rfl⟩, decide_eq_true (by simp; omega)⟩
  rw [List.all_eq_true]
  intro x hx
  rw [List.any_eq_false] at this
  simpa using this x hx
theorem meth_snd (s : Snd T c cl k R) (o : Ok c W cl k C X) {ob : Expr} {mm : Str} {args : List Expr} {apos cpos : Pos} {m : ML.E} (h : methE R C ob mm apos args cpos = some m) : PE X (.Call (.Attribute ob mm apos) args [] cpos) (tE c W (ML.evE T cl m)) := by
  unfold methE at h
  split at h
  · cases h
  · rename_i hc
    simp only [Bool.or_eq_true, Bool.not_eq_true', not_or, Bool.not_eq_true, Bool.not_eq_false] at hc
    have hb : ∀ n, attributeBase ob n X.env (eval ob X.env) = eval ob X.env := fun n => base_of hc.1
    rcases args with _ | ⟨a, _ | ⟨b, _ | ⟨d, r⟩⟩⟩
    · cases h
    · dsimp only at h
      split at h
      · cases h
      · rename_i hs
        have hs : isStar a = false := by simpa using hs
        have ns : ∀ e ∈ [a], isStar e = false := fun e he => by rw [List.mem_singleton.mp he]; exact hs
        split at h
        · rename_i e; subst e
          obtain ⟨x, e1, h⟩ := Option.bind_eq_some_iff.mp h
          obtain ⟨y, e2, h⟩ := Option.map_eq_some_iff.mp h
          subst h
          exact e_mth (m := .append) o.K (s.E o e1) (arg1 s o hs e2) fun to t h1 h2 => L2.pe_bm PySem.F.plainAttrs_list PySem.F.slot_list_append PySem.F.type_list_append m_append h1 h2 (hb _) (few_of ns (by simp)) hc.2 (starEach_cons (not_star hs)) rfl
        split at h
        · rename_i e; subst e
          obtain ⟨x, e1, h⟩ := Option.bind_eq_some_iff.mp h
          obtain ⟨y, e2, h⟩ := Option.map_eq_some_iff.mp h
          subst h
          exact e_mthL (m := .extend) o.K (s.E o e1) (l_snd s o e2) (not_star hs) (fun _ _ _ _ e => evL_ok e) fun to t h1 h2 => L2.pe_bm PySem.F.plainAttrs_list PySem.F.slot_list_extend PySem.F.type_list_extend m_extend h1 h2 (hb _) (few_of ns (by simp)) hc.2 (starEach_cons (not_star hs)) rfl
        split at h
        · rename_i e; subst e
          obtain ⟨x, e1, h⟩ := Option.bind_eq_some_iff.mp h
          obtain ⟨y, e2, h⟩ := Option.map_eq_some_iff.mp h
          subst h
          exact e_mthL (m := .join) o.K (s.E o e1) (l_snd s o e2) (not_star hs) (fun _ _ _ _ e => evL_ok e) fun to t h1 h2 => L2.pe_bm PySem.F.plainAttrs_str PySem.F.slot_str_join PySem.F.type_str_join (m_join o.K) h1 h2 (hb _) (few_of ns (by simp)) hc.2 (starEach_cons (not_star hs)) rfl
        · cases h
    · dsimp only at h
      split at h
      · rename_i e; subst e
        obtain ⟨x, e1, h⟩ := Option.bind_eq_some_iff.mp h
        obtain ⟨y, e2, h⟩ := Option.map_eq_some_iff.mp h
        subst h
        obtain ⟨q1, _, q3⟩ := es_snd s o e2
        exact e_mth (m := .get) o.K (s.E o e1) q1 fun to t h1 h2 => L2.pe_bm PySem.F.plainAttrs_dict PySem.F.slot_dict_get PySem.F.type_dict_get (m_get o.u1) h1 h2 (hb _) (few_of q3 (by simp)) hc.2 (starEach_cons (not_star (q3 a (by simp)))) (star_any fun z hz => q3 z (List.mem_cons_of_mem _ hz))
      split at h
      · rename_i e; subst e
        obtain ⟨x, e1, h⟩ := Option.bind_eq_some_iff.mp h
        obtain ⟨y, e2, h⟩ := Option.map_eq_some_iff.mp h
        subst h
        obtain ⟨q1, _, q3⟩ := es_snd s o e2
        exact e_mth (m := .setdefault) o.K (s.E o e1) q1 fun to t h1 h2 => L2.pe_bm PySem.F.plainAttrs_dict PySem.F.slot_dict_setdefault PySem.F.type_dict_setdefault m_setdefault h1 h2 (hb _) (few_of q3 (by simp)) hc.2 (starEach_cons (not_star (q3 a (by simp)))) (star_any fun z hz => q3 z (List.mem_cons_of_mem _ hz))
      · cases h
    · cases h
theorem o_snd (s : Snd T c cl k R) (o : Ok c W cl k C X) {e : Option Expr} {m : ML.EO} (h : oE R C e = some m) : L2.PO X e (tO c W (ML.evO T cl m)) := by
  cases e with
  | none => cases h; exact o_none
  | some e =>
    obtain ⟨x, e1, h⟩ := Option.map_eq_some_iff.mp h
    subst h
    exact o_some (s.E o e1)
theorem plain_ix {b : Expr} (h : isSlice b = false) : L2.PlainIx b := fun o i => by cases b <;> first | rfl | cases h
theorem m1_of {e : Expr} (h : isM1 e = true) : ∃ j p1 p2, e = .UnaryOp .USub (.Constant (.int 1) j p1) p2 := by
  unfold isM1 at h
  split at h
  · exact ⟨_, _, _, rfl⟩
  · cases h
/-! ### targets -/
def tglen : ML.Tgs → Nat
  | .nil => 0
  | .cons _ ts => tglen ts + 1
theorem asgTs_len : ∀ (ts : ML.Tgs) (xs : List ML.D) (σ : ML.Env) (S : ML.St) (σ' : ML.Env) (S' : ML.St), ML.asgTs T cl ts xs σ S = .ok σ' S' → xs.length = tglen ts
  | .nil, xs, σ, S, σ', S', h => by
    simp only [ML.asgTs] at h
    cases xs with
    | nil => rfl
    | cons _ _ => cases h
  | .cons t ts, xs, σ, S, σ', S', h => by
    simp only [ML.asgTs] at h
    cases xs with
    | nil => cases h
    | cons d ds =>
      obtain ⟨σ1, S1, _, h⟩ := bndOk h
      simp [tglen, asgTs_len ts ds σ1 S1 σ' S' h]
def tgsOf (f : Expr → Option (ML.Tg × List Nat)) : List Expr → Option (ML.Tgs × List Nat)
  | [] => some (.nil, [])
  | e :: r => if isStar e then none else (f e).bind fun x => (tgsOf f r).map fun y => (.cons x.1 y.1, x.2 ++ y.2)
/-- names and tuples of names -/
def tgN : Nat → CEnv → Expr → Option (ML.Tg × List Nat)
  | 0, _, _ => none
  | n + 1, C, .Name x _ => if C.lc x then (ixOf C.N x).map fun i => (.v i, [i]) else none
  | n + 1, C, .Tuple es _ _ => (tgsOf (tgN n C) es).map fun y => (.tup y.1, y.2)
  | _ + 1, _, _ => none
theorem asg_len {env : Env} : ∀ {es : List Expr}, (assignEach es env).length = es.length
  | [] => rfl
  | e :: r => by cases e <;> simp [assignEach, asg_len (es := r)]
theorem asg_star {env : Env} : ∀ {es : List Expr}, (∀ e ∈ es, isStar e = false) → (assignEach es env).findIdx? (·.1) = none
  | [], _ => rfl
  | e :: r, h => by
    have h1 := h e (by simp)
    have h2 := asg_star (env := env) (es := r) fun z hz => h z (List.mem_cons_of_mem _ hz)
    rw [List.findIdx?_eq_none_iff] at h2 ⊢
    cases e <;> first | (cases h1; done) | (intro x hx; simp only [assignEach, List.mem_cons] at hx; rcases hx with q | q; rw [q]; exact h2 x q)
theorem tgs_snd {f : Expr → Option (ML.Tg × List Nat)} (hf : ∀ e t, f e = some t → PG X e (tG c W0 t.2 (ML.asgT T cl t.1))) : ∀ {es : List Expr} {y : ML.Tgs × List Nat}, tgsOf f es = some y → PGs X es (tGs c W0 y.2 (ML.asgTs T cl y.1)) ∧ tglen y.1 = es.length ∧ ∀ e ∈ es, isStar e = false
  | [], y, h => by cases h; exact ⟨gs_nil, rfl, fun _ z => nomatch z⟩
  | e :: r, y, h => by
    unfold tgsOf at h
    split at h
    · cases h
    · rename_i hs
      have hs : isStar e = false := by simpa using hs
      obtain ⟨x, e1, h⟩ := Option.bind_eq_some_iff.mp h
      obtain ⟨z, e2, h⟩ := Option.map_eq_some_iff.mp h
      subst h
      obtain ⟨a, b, d⟩ := tgs_snd hf e2
      refine ⟨gs_cons (fun _ _ _ _ _ h => h) (not_star hs) (hf e x e1) a, by simp [tglen, b], fun w hw => ?_⟩
      rcases List.mem_cons.mp hw with q | q
      · rw [q]; exact hs
      · exact d w q
theorem tgN_snd {W1 : WX} (o : Ok c W1 cl k C X) : ∀ (n : Nat) {W : WX} {e : Expr} {t : ML.Tg × List Nat}, tgN n C e = some t → PG X e (tG c W t.2 (ML.asgT T cl t.1))
  | 0, _, _, _, h => by cases h
  | n + 1, W, e, t, h => by
    cases e with
    | Name x p =>
      unfold tgN at h
      split at h
      · rename_i hl
        obtain ⟨i, e1, h⟩ := Option.map_eq_some_iff.mp h
        subst h
        obtain ⟨a, b⟩ := o.lc x hl
        exact g_name o.nd (by rw [o.N]; exact ixOf_get e1) a b
      · cases h
    | Tuple es j p =>
      unfold tgN at h
      obtain ⟨y, e1, h⟩ := Option.map_eq_some_iff.mp h
      subst h
      obtain ⟨a, b, d⟩ := tgs_snd (fun e t h => tgN_snd o n (W := W0) h) e1
      exact g_tup o.K o.calm a (n := es.length) asg_len (asg_star d) fun xs σ S σ' S' h => by rw [asgTs_len _ _ _ _ _ _ h, b]
    | _ => cases h
def isTupE : Expr → Bool
  | .Tuple _ _ _ => true
  | _ => false
end
end MS
end
section
set_option linter.all false
set_option maxRecDepth 100000
set_option maxHeartbeats 1000000
/-! MS22: what is walked, comprehensions, all expressions. -/
namespace MS
open PySem
open L2 (V Hp HO SqL SqT Rd upd upd_same upd_ne RelV Vals TE TA TT TS TI TG TGs VK XK WX Cx Inv PE PT PW PA PS PSs PI PG PGs OpR It Turn PIE PTs CallR MtR Gl Ends FnOk Room XK Sp)
/-- a text's slice -/
def isTxt : Expr → Bool
  | .Constant _ _ _ => true
  | .Subscript a (.Slice _ _ _ _) _ => isTxt a
  | _ => false
def itG (R : Rc) (C : CEnv) (e : Expr) : Option ML.It := if isNew e && !isTxt e then (R.N C e).map .l else (R.E C e).map .e
def itE (R : Rc) (C : CEnv) (tg e : Expr) : Option ML.It := match e with
  | .Call (.Name x _) [a] [] _ =>
    if btB C x && !isStar a then (if x = "range" then (R.E C a).map .rng else if x = "enumerate" then (if isTupE tg then (lE R C a).map .enum else none) else (R.E C e).map .e)
    else (R.E C e).map .e
  | .Call (.Name x _) [a, b] [] _ =>
    if btB C x && !isStar a && !isStar b then (if x = "range" then (R.E C a).bind fun x => (R.E C b).map fun y => .rng2 x y else if x = "zip" then (if isTupE tg then (lE R C a).bind fun x => (lE R C b).map fun y => .zip x y else none) else (R.E C e).map .e)
    else (R.E C e).map .e
  | e => itG R C e
def ifE (R : Rc) (C : CEnv) : List Expr → Option ML.EO
  | [] => some .none
  | [e] => (R.T C e).map .some
  | _ => none
def blkE (C : CEnv) (scope : Scope) : CEnv := { C with sc := L2.relS scope C.sc, lc := fun x => decide (scope.names.lookup x = some .local) || decide (scope.names.lookup x = some .cell) }
def ownE (C : CEnv) (scope : Scope) : List (Str × Nat) := scope.names.filterMap fun y => if decide (y.2 = .local) || decide (y.2 = .cell) then (ixOf C.N y.1).map fun i => (y.1, i) else none
def compE (R : Rc) (C : CEnv) (elt tg iter : Expr) (ifs : List Expr) (a : Int) (scope : Scope) : Option ML.L :=
  if isSet iter || !(decide (a = 0)) || !L2.blkC C.N C.sc scope (ownE C scope) then none else
  (itE R C tg iter).bind fun it => (tgN 3 (blkE C scope) tg).bind fun t => (ifE R (blkE C scope) ifs).bind fun cc => (R.E (blkE C scope) elt).bind fun e =>
    if t.2.all fun i => ((ownE C scope).map (·.2)).contains i then some (.comp e ((ownE C scope).map (·.2)) t.1 it cc) else none
section
variable {T : ML.Tab} {c : Cn} {cl : Nat → List ML.D → ML.St → ML.Out ML.D} {k : Nat} {R : Rc} {C : CEnv} {X : Cx} {W : WX}
theorem itG_snd (s : Snd T c cl k R) (o : Ok c W cl k C X) {tg e : Expr} {m : ML.It} (h : itG R C e = some m) : PI X tg e (tIt c W (ML.evIt T cl m)) := by
  unfold itG at h
  split at h
  · obtain ⟨l, e1, h⟩ := Option.map_eq_some_iff.mp h
    subst h
    obtain ⟨a, b⟩ := s.N o e1
    exact it_l o.K (l_of_n (fun _ _ _ _ e _ => evL_new b e) a) fun _ _ _ _ e => evL_ok e
  · obtain ⟨x, e1, h⟩ := Option.map_eq_some_iff.mp h
    subst h
    exact it_e o.K (s.E o e1)
theorem it_snd (s : Snd T c cl k R) (o : Ok c W cl k C X) {tg e : Expr} {m : ML.It} (h : itE R C tg e = some m) : PI X tg e (tIt c W (ML.evIt T cl m)) := by
  have gen : ∀ {m}, (R.E C e).map ML.It.e = some m → PI X tg e (tIt c W (ML.evIt T cl m)) := fun h => by
    obtain ⟨x, e1, h⟩ := Option.map_eq_some_iff.mp h
    subst h
    exact it_e o.K (s.E o e1)
  unfold itE at h
  split at h
  · split at h
    · rename_i hb
      simp only [Bool.and_eq_true, Bool.not_eq_true'] at hb
      obtain ⟨g1, g2, g3⟩ := o.bt_of hb.1
      split at h
      · rename_i e; subst e
        obtain ⟨x, e1, h⟩ := Option.map_eq_some_iff.mp h
        subst h
        exact it_rng g1 g3 (not_star hb.2) (s.E o e1)
      split at h
      · rename_i e; subst e
        split at h
        · rename_i ht
          obtain ⟨x, e1, h⟩ := Option.map_eq_some_iff.mp h
          subst h
          cases tg <;> first | (cases ht; done) | skip
          exact it_enum o.K g1 g3 (not_star hb.2) (l_snd s o e1) fun _ _ _ _ e => evL_ok e
        · cases h
      · exact gen h
    · exact gen h
  · split at h
    · rename_i hb
      simp only [Bool.and_eq_true, Bool.not_eq_true'] at hb
      obtain ⟨g1, g2, g3⟩ := o.bt_of hb.1.1
      split at h
      · rename_i e; subst e
        obtain ⟨x, e1, h⟩ := Option.bind_eq_some_iff.mp h
        obtain ⟨y, e2, h⟩ := Option.map_eq_some_iff.mp h
        subst h
        exact it_rng2 g1 g3 (not_star hb.1.2) (not_star hb.2) (s.E o e1) (s.E o e2)
      split at h
      · rename_i e; subst e
        split at h
        · rename_i ht
          obtain ⟨x, e1, h⟩ := Option.bind_eq_some_iff.mp h
          obtain ⟨y, e2, h⟩ := Option.map_eq_some_iff.mp h
          subst h
          cases tg <;> first | (cases ht; done) | skip
          exact it_zip o.K g1 g3 (not_star hb.1.2) (not_star hb.2) (l_snd s o e1) (l_snd s o e2) fun _ _ _ _ e => evL_ok e
        · cases h
      · exact gen h
    · exact gen h
  · exact itG_snd s o h
theorem PTs.mono {ifs : List Expr} {t t' : TT} (h : PTs X ifs t) (f : ∀ τ H Q, t' τ H Q → t τ H Q) : PTs X ifs t' := ⟨fun pins s σ H Q I q => h.run pins s σ H Q I (f σ H Q q)⟩
theorem if_snd (s : Snd T c cl k R) (o : Ok c W cl k C X) {ifs : List Expr} {m : ML.EO} (h : ifE R C ifs = some m) : PTs X ifs (tT c W (ML.evC T cl m)) := by
  match ifs, h with
  | [], h =>
    cases h
    refine PTs.mono L2.pts_nil fun τ H Q h => ?_
    obtain ⟨ρ, S, σ, rs, re, p⟩ := h
    exact Pst.ok p rs
  | [e], h =>
    obtain ⟨x, e1, h⟩ := Option.map_eq_some_iff.mp h
    subst h
    exact L2.pts_one (s.Te o e1)
  | _ :: _ :: _, h => cases h
theorem Ok.blk (o : Ok c W cl k C X) {scope : Scope} (s : Shared) (H : Hp) (C' : Addr) (cl' : List (Str × Addr)) (fp : List Addr) : Ok c W0 cl k (blkE C scope) (X.blk s H scope (compEnvC scope cl' C' X.env) fp) where
  N := o.N
  sc := by show L2.relS scope X.env.scope = _; rw [o.sc]; rfl
  K := o.K
  nd := o.nd
  calm := o.calm
  tk := L2.takes0
  room := o.room
  lc := fun x h => by
    have h : (decide (scope.names.lookup x = some .local) || decide (scope.names.lookup x = some .cell)) = true := h
    simp only [Bool.or_eq_true, decide_eq_true_eq] at h
    rcases h with h | h
    · have h2 : (L2.relS scope X.env.scope).names.lookup x = some .local := L2.lookup_relS_keep (by simp) h
      exact ⟨.inl h2, .inr h2⟩
    · have h2 : (L2.relS scope X.env.scope).names.lookup x = some .cell := L2.lookup_relS_keep (by simp) h
      refine ⟨.inr h2, .inl ?_⟩
      show (scope.names.lookup x == some .cell) = true
      rw [h]; rfl
  gl := o.gl
  fn := o.fn
  cs := o.cs
theorem comp_snd (s : Snd T c cl k R) (o : Ok c W cl k C X) {elt tg iter : Expr} {ifs : List Expr} {a : Int} {scope : Scope} {pos : Pos} {m : ML.L} (h : compE R C elt tg iter ifs a scope = some m) :
    a = 0 ∧ (a = 0 → True) ∧ newL m = true ∧ (∀ h0 : a = 0, PE X (.ListComp elt [⟨tg, iter, ifs, 0⟩] scope pos) (tN c W (ML.evL T cl m))) := by
  unfold compE at h
  split at h
  · cases h
  · rename_i hc
    simp only [Bool.or_eq_true, Bool.not_eq_true', not_or, Bool.not_eq_true, Bool.not_eq_false, decide_eq_true_eq] at hc
    obtain ⟨⟨h1, h2⟩, h3⟩ := hc
    obtain ⟨it, e1, h⟩ := Option.bind_eq_some_iff.mp h
    obtain ⟨t, e2, h⟩ := Option.bind_eq_some_iff.mp h
    obtain ⟨cc, e3, h⟩ := Option.bind_eq_some_iff.mp h
    obtain ⟨e, e4, h⟩ := Option.bind_eq_some_iff.mp h
    split at h
    · rename_i ht
      cases h
      refine ⟨h2, fun _ => trivial, rfl, fun _ => ?_⟩
      rw [List.all_eq_true] at ht
      exact n_comp o.calm o.nd (it_snd s o e1) (L2.blkOk_by (by rw [o.N, o.sc]; exact h3)) (fun i hi => by simpa using ht i hi) (fun s' H C' cl' fp => tgN_snd (o.blk s' H C' cl' fp) 3 e2)
        (fun s' H C' cl' fp => if_snd s (o.blk s' H C' cl' fp) e3) (fun s' H C' cl' fp => s.E (o.blk s' H C' cl' fp) e4) (folded_of h1)
    · cases h
end
end MS
end
section
set_option linter.all false
set_option maxRecDepth 100000
set_option maxHeartbeats 2000000
/-! MS23: all expressions. -/
namespace MS
open PySem
open L2 (V Hp HO SqL SqT Rd upd upd_same upd_ne RelV Vals TE TA TT TS TI TG TGs VK XK WX Cx Inv PE PT PW PA PS PSs PI PG PGs OpR It Turn PIE PTs CallR MtR Gl Ends FnOk Room XK Sp)
def chE (R : Rc) (C : CEnv) (a : Expr) (o1 o2 : CmpOp) (b d : Expr) : Option ML.E :=
  if isSet d then none else (copOf o1).bind fun p => (copOf o2).bind fun q => (R.E C a).bind fun x => (R.E C b).bind fun y => (R.E C d).map fun z => .chain p q x y z
def slE (R : Rc) (C : CEnv) (a : Expr) (lo hi st : Option Expr) : Option ML.E := match st with
  | none => (R.E C a).bind fun x => (oE R C lo).bind fun l => (oE R C hi).map fun h => .sl x l h
  | some e => if isM1 e && lo.isNone && hi.isNone then (R.E C a).map .rev else none
def slN (R : Rc) (C : CEnv) (a : Expr) (lo hi st : Option Expr) : Option ML.L := match st with
  | none => (lE R C a).bind fun x => (oE R C lo).bind fun l => (oE R C hi).map fun h => .sl x l h
  | some e => if isM1 e && lo.isNone && hi.isNone then (lE R C a).map .rev else none
def stepE (R : Rc) (C : CEnv) (e : Expr) : Option ML.E := match e with
  | .Name x _ => nameE C x
  | .Constant v _ _ => (cConst v).map .cst
  | .Tuple es _ _ => if es.length ≤ 1000 then (esE R C es).map .tup else none
  | .List es _ => (R.N C e).map .lst
  | .ListComp _ _ _ _ => (R.N C e).map .lst
  | .Dict [] [] _ => some .dict0
  | .BinOp a op b _ => if listy e then (R.N C e).map .lst else (bopOf op).bind fun o => (R.E C a).bind fun x => (R.E C b).map fun y => .bin o x y
  | .UnaryOp .Not a _ => (R.E C a).map .not
  | .UnaryOp .USub a _ => (R.E C a).map .neg
  | .BoolOp .And es _ => boolE (R.E C) .and es
  | .BoolOp .Or es _ => boolE (R.E C) .or es
  | .IfExp t a b _ => (R.T C t).bind fun x => (R.E C a).bind fun y => (R.E C b).map fun z => .ife x y z
  | .Compare a [op] [b] _ => cmpE R C a op b
  | .Compare a [o1, o2] [b, d] _ => chE R C a o1 o2 b d
  | .Subscript a (.Slice lo hi st _) _ => if listy a then (R.N C e).map .lst else slE R C a lo hi st
  | .Subscript a b _ => if isSlice b then none else if listy a then (lE R C a).bind fun x => (R.E C b).map fun y => .idxL x y else (R.E C a).bind fun x => (R.E C b).map fun y => .idx x y
  | .Call (.Name x _) args [] _ => callE R C x args
  | .Call (.Attribute o m apos) args [] cpos => methE R C o m apos args cpos
  | _ => none
def stepT (R : Rc) (C : CEnv) (e : Expr) : Option ML.E := match e with
  | .UnaryOp .Not a _ => (R.T C a).map .not
  | .BoolOp .And es _ => boolE (R.T C) .and es
  | .BoolOp .Or es _ => boolE (R.T C) .or es
  | .Compare a [op] [b] _ => cmpE R C a op b
  | .Compare a [o1, o2] [b, d] _ => chE R C a o1 o2 b d
  | .Name _ _ => R.E C e
  | .Call _ _ _ _ => R.E C e
  | .Subscript _ _ _ => R.E C e
  | .Attribute _ _ _ => R.E C e
  | _ => none
def stepN (R : Rc) (C : CEnv) (e : Expr) : Option ML.L := match e with
  | .List es _ => if es.length ≤ 1000 then (esE R C es).map .disp else none
  | .ListComp elt [⟨tg, iter, ifs, a⟩] scope _ => compE R C elt tg iter ifs a scope
  | .BinOp a .Add b _ => (lE R C a).bind fun x => (lE R C b).map fun y => .add x y
  | .Subscript a (.Slice lo hi st _) _ => slN R C a lo hi st
  | _ => none
section
variable {T : ML.Tab} {c : Cn} {cl : Nat → List ML.D → ML.St → ML.Out ML.D} {k : Nat} {R : Rc} {C : CEnv} {X : Cx} {W : WX}
theorem ch_snd (s : Snd T c cl k R) (o : Ok c W cl k C X) {a b d : Expr} {o1 o2 : CmpOp} {pos : Pos} {m : ML.E} (h : chE R C a o1 o2 b d = some m) :
    PE X (.Compare a [o1, o2] [b, d] pos) (tE c W (ML.evE T cl m)) ∧ PT X (.Compare a [o1, o2] [b, d] pos) (tT c W (tst (ML.evE T cl m))) := by
  unfold chE at h
  split at h
  · cases h
  · rename_i hs
    obtain ⟨p, e1, h⟩ := Option.bind_eq_some_iff.mp h
    obtain ⟨q, e2, h⟩ := Option.bind_eq_some_iff.mp h
    obtain ⟨x, e3, h⟩ := Option.bind_eq_some_iff.mp h
    obtain ⟨y, e4, h⟩ := Option.bind_eq_some_iff.mp h
    obtain ⟨z, e5, h⟩ := Option.map_eq_some_iff.mp h
    subst h
    have hm : lastMarks [o1, o2] [b, d] = false := behind_of (op := o2) (by simpa using hs)
    exact ⟨e_chain (cop_snd o e1) (cop_snd o e2) hm (s.E o e3) (s.E o e4) (s.E o e5), t_chain (cop_snd o e1) (cop_snd o e2) hm (s.E o e3) (s.E o e4) (s.E o e5)⟩
theorem sl_snd (s : Snd T c cl k R) (o : Ok c W cl k C X) {a : Expr} {lo hi st : Option Expr} {p2 pos : Pos} {m : ML.E} (h : slE R C a lo hi st = some m) : PE X (.Subscript a (.Slice lo hi st p2) pos) (tE c W (ML.evE T cl m)) := by
  unfold slE at h
  split at h
  · obtain ⟨x, e1, h⟩ := Option.bind_eq_some_iff.mp h
    obtain ⟨l, e2, h⟩ := Option.bind_eq_some_iff.mp h
    obtain ⟨hh, e3, h⟩ := Option.map_eq_some_iff.mp h
    subst h
    exact e_sl o.K (s.E o e1) (o_snd s o e2) (o_snd s o e3)
  · split at h
    · rename_i hc
      simp only [Bool.and_eq_true, Option.isNone_iff_eq_none] at hc
      obtain ⟨⟨h1, h2⟩, h3⟩ := hc
      obtain ⟨j, q1, q2, e⟩ := m1_of h1
      subst e h2 h3
      obtain ⟨x, e1, h⟩ := Option.map_eq_some_iff.mp h
      subst h
      exact e_rev o.K (s.E o e1)
    · cases h
theorem slN_snd (s : Snd T c cl k R) (o : Ok c W cl k C X) {a : Expr} {lo hi st : Option Expr} {p2 pos : Pos} {m : ML.L} (h : slN R C a lo hi st = some m) : PE X (.Subscript a (.Slice lo hi st p2) pos) (tN c W (ML.evL T cl m)) ∧ newL m = true := by
  unfold slN at h
  split at h
  · obtain ⟨x, e1, h⟩ := Option.bind_eq_some_iff.mp h
    obtain ⟨l, e2, h⟩ := Option.bind_eq_some_iff.mp h
    obtain ⟨hh, e3, h⟩ := Option.map_eq_some_iff.mp h
    subst h
    exact ⟨n_sl o.K (l_snd s o e1) (o_snd s o e2) (o_snd s o e3), rfl⟩
  · split at h
    · rename_i hc
      simp only [Bool.and_eq_true, Option.isNone_iff_eq_none] at hc
      obtain ⟨⟨h1, h2⟩, h3⟩ := hc
      obtain ⟨j, q1, q2, e⟩ := m1_of h1
      subst e h2 h3
      obtain ⟨x, e1, h⟩ := Option.map_eq_some_iff.mp h
      subst h
      exact ⟨n_rev o.K (l_snd s o e1) fun _ _ _ _ e => evL_ok e, rfl⟩
    · cases h
theorem stepE_snd (s : Snd T c cl k R) (o : Ok c W cl k C X) {e : Expr} {m : ML.E} (h : stepE R C e = some m) : PE X e (tE c W (ML.evE T cl m)) := by
  have LN : ∀ {e : Expr} {m}, (R.N C e).map ML.E.lst = some m → PE X e (tE c W (ML.evE T cl m)) := fun h => by
    obtain ⟨x, e1, h⟩ := Option.map_eq_some_iff.mp h
    subst h
    exact e_lst (s.N o e1).1
  unfold stepE at h
  split at h
  · exact name_snd o h
  · obtain ⟨x, e1, h⟩ := Option.map_eq_some_iff.mp h
    subst h
    exact const_snd e1
  · split at h
    · rename_i hl
      obtain ⟨x, e1, h⟩ := Option.map_eq_some_iff.mp h
      subst h
      obtain ⟨q1, q2, _⟩ := es_snd s o e1
      exact e_tup q1 fun σ S ds S' h => by rw [evEs_len _ _ _ _ _ h, q2]; exact hl
    · cases h
  · exact LN h
  · exact LN h
  · cases h; exact e_dict0
  · split at h
    · exact LN h
    · obtain ⟨p, e1, h⟩ := Option.bind_eq_some_iff.mp h
      obtain ⟨x, e2, h⟩ := Option.bind_eq_some_iff.mp h
      obtain ⟨y, e3, h⟩ := Option.map_eq_some_iff.mp h
      subst h
      exact e_op (bop_snd o e1) (s.E o e2) (s.E o e3)
  · obtain ⟨x, e1, h⟩ := Option.map_eq_some_iff.mp h
    subst h
    exact e_not (s.E o e1)
  · obtain ⟨x, e1, h⟩ := Option.map_eq_some_iff.mp h
    subst h
    exact e_neg (s.E o e1)
  · exact and_snd s o h
  · exact or_snd s o h
  · obtain ⟨x, e1, h⟩ := Option.bind_eq_some_iff.mp h
    obtain ⟨y, e2, h⟩ := Option.bind_eq_some_iff.mp h
    obtain ⟨z, e3, h⟩ := Option.map_eq_some_iff.mp h
    subst h
    exact e_ife (s.Te o e1) (s.E o e2) (s.E o e3)
  · exact (cmp_snd s o h).1
  · exact (ch_snd s o h).1
  · split at h
    · exact LN h
    · exact sl_snd s o h
  · split at h
    · cases h
    · rename_i hs
      have hp := plain_ix (by simpa using hs)
      split at h
      · obtain ⟨x, e1, h⟩ := Option.bind_eq_some_iff.mp h
        obtain ⟨y, e2, h⟩ := Option.map_eq_some_iff.mp h
        subst h
        exact e_idxL o.K (l_snd s o e1) (s.E o e2) hp
      · obtain ⟨x, e1, h⟩ := Option.bind_eq_some_iff.mp h
        obtain ⟨y, e2, h⟩ := Option.map_eq_some_iff.mp h
        subst h
        exact e_idx o.K o.u1 (s.E o e1) (s.E o e2) hp
  · exact call_snd s o h
  · exact meth_snd s o h
  · cases h
theorem stepT_snd (s : Snd T c cl k R) (o : Ok c W cl k C X) {e : Expr} {m : ML.E} (h : stepT R C e = some m) : PT X e (tT c W (tst (ML.evE T cl m))) := by
  unfold stepT at h
  split at h
  · obtain ⟨x, e1, h⟩ := Option.map_eq_some_iff.mp h
    subst h
    exact t_not (s.Te o e1)
  · exact (andT_snd s o h).pt
  · exact (orT_snd s o h).pt
  · exact (cmp_snd s o h).2
  · exact (ch_snd s o h).2
  · exact t_val (fun _ => rfl) (s.E o h)
  · exact t_val (fun _ => rfl) (s.E o h)
  · exact t_val (fun _ => rfl) (s.E o h)
  · exact t_val (fun _ => rfl) (s.E o h)
  · cases h
theorem stepN_snd (s : Snd T c cl k R) (o : Ok c W cl k C X) {e : Expr} {m : ML.L} (h : stepN R C e = some m) : PE X e (tN c W (ML.evL T cl m)) ∧ newL m = true := by
  unfold stepN at h
  split at h
  · split at h
    · rename_i hl
      obtain ⟨x, e1, h⟩ := Option.map_eq_some_iff.mp h
      subst h
      obtain ⟨q1, q2, _⟩ := es_snd s o e1
      exact ⟨n_disp q1 fun σ S ds S' h => by rw [evEs_len _ _ _ _ _ h, q2]; exact hl, rfl⟩
    · cases h
  · obtain ⟨h1, _, h2, h3⟩ := comp_snd s o h (pos := by assumption)
    subst h1
    exact ⟨h3 rfl, h2⟩
  · obtain ⟨x, e1, h⟩ := Option.bind_eq_some_iff.mp h
    obtain ⟨y, e2, h⟩ := Option.map_eq_some_iff.mp h
    subst h
    exact ⟨n_add o.K (l_snd s o e1) (l_snd s o e2) fun _ _ _ _ e => evL_ok e, rfl⟩
  · exact slN_snd s o h
  · cases h
/-- so deep -/
def rc : Nat → Rc
  | 0 => ⟨fun _ _ => none, fun _ _ => none, fun _ _ => none⟩
  | n + 1 => ⟨stepE (rc n), stepT (rc n), stepN (rc n)⟩
theorem rc_snd : ∀ n : Nat, Snd T c cl k (rc n)
  | 0 => ⟨fun _ _ _ h => by simp [rc] at h, fun _ _ _ h => by simp [rc] at h, fun _ _ _ h => by simp [rc] at h⟩
  | n + 1 => ⟨fun o _ _ h => stepE_snd (rc_snd n) o h, fun o _ _ h => stepT_snd (rc_snd n) o h, fun o _ _ h => stepN_snd (rc_snd n) o h⟩
end
end MS
end
section
set_option linter.all false
set_option maxRecDepth 100000
set_option maxHeartbeats 2000000
/-! MS24: statements translated. -/
namespace MS
open PySem
open L2 (V Hp HO SqL SqT Rd upd upd_same upd_ne RelV Vals TE TA TT TS TI TG TGs VK XK WX Cx Inv PE PT PW PA PS PSs PI PG PGs OpR It Turn PIE PTs CallR MtR Gl Ends FnOk Room XK Sp)
section
variable {T : ML.Tab} {c : Cn} {cl : Nat → List ML.D → ML.St → ML.Out ML.D} {k : Nat} {R : Rc} {C : CEnv} {X : Cx} {W : WX} {pos : Pos} {Wn : Nat}
/-- a list's reading, wanted as a value -/
theorem tN_of_tE {f : ML.Env → ML.St → ML.Out ML.Li} {τ : L2.St} {H : Hp} {Q : VK} (h : tE c W (fun σ S => (f σ S).bnd fun p S => if p.b then ML.mkLst p.xs S else .bad) τ H Q) : tN c W f τ H Q := by
  obtain ⟨ρ, S, σ, rs, re, p⟩ := h
  refine ⟨ρ, S, σ, rs, re, p.bnd.mono fun q S' ρ' H' fr rs' p1 => ?_⟩
  cases hb : q.b with
  | false => rw [hb] at p1; exact p1.elim
  | true =>
    rw [hb] at p1
    refine ⟨fun _ a vs ha _ r => ?_, fun z => nomatch z⟩
    exact (p1.lst rs' r).2 a ha
theorem lc_of_tN {ts vs : List Nat} {fi : ML.Env → ML.St → ML.Out (List ML.D × ML.Gd)} {fg : ML.D → ML.Env → ML.St → ML.Out ML.Env} {fc : ML.Env → ML.St → ML.Out Bool} {fe : ML.Env → ML.St → ML.Out ML.D} {τ : L2.St} {H : Hp} {Q : VK} (hts : ∀ i ∈ ts, i ∈ vs)
    (h : tN c W (fun σ S => (fi σ S).bnd fun p S => (ML.compD p.2 (fun d S => (fg d (ML.wipe σ vs) S).bnd fun σ1 S => (fc σ1 S).bnd fun r S => if r then (fe σ1 S).bnd fun x S => .ok [x] S else .ok [] S) p.1 S).nox.bnd fun xs S => .ok ⟨true, xs, [], false⟩ S) τ H Q) :
    L2.tLc (tIt c W fi) (tG c W0 ts fg) (tT c W0 fc) (tE c W0 fe) vs τ H Q := by
  obtain ⟨ρ, S, σ, rs, re, p⟩ := h
  refine ⟨ρ, S, σ, rs, re, p.bnd.mono fun q S1 ρ1 H1 f1 rs1 p1 J rl => ?_⟩
  refine comp_run (fg := fg) (fc := fc) (fe := fe) _ hts (re.mono rs f1) rs1 rl (p1.bnd.mono fun as S' ρ' H' fr rs' k a ws ha hz r => ?_)
  exact (k.ok rs').1 rfl a ws ha hz r
/-- name = [..] on one line -/
theorem setComp_snd (s : Snd T c cl k R) (o : Ok c W cl k C X) {y : Str} {py spos : Pos} {i : Nat} {elt tg iter : Expr} {ifs : List Expr} {a : Int} {scope : Scope} {m : ML.L} (h : compE R C elt tg iter ifs a scope = some m) (hi : ixOf C.N y = some i)
    (hl : C.sc.names.lookup y = some .local) (hp : (py.line == pos.line) = true) (ha : (scope.names.any fun (n, k) => n == y && (k == .local || k == .cell)) = false) (hk : C.sc.kind = .function) :
    a = 0 ∧ ∀ _ : a = 0, PS X (.Assign [.Name y py] (.ListComp elt [⟨tg, iter, ifs, 0⟩] scope pos) spos) (tS c W (ML.exS T Wn cl (.asg (.v i) (.lst m)))) := by
  unfold compE at h
  split at h
  · cases h
  · rename_i hc
    simp only [Bool.or_eq_true, Bool.not_eq_true', not_or, Bool.not_eq_true, Bool.not_eq_false, decide_eq_true_eq] at hc
    obtain ⟨⟨h1, h2⟩, h3⟩ := hc
    obtain ⟨it, e1, h⟩ := Option.bind_eq_some_iff.mp h
    obtain ⟨t, e2, h⟩ := Option.bind_eq_some_iff.mp h
    obtain ⟨cc, e3, h⟩ := Option.bind_eq_some_iff.mp h
    obtain ⟨e, e4, h⟩ := Option.bind_eq_some_iff.mp h
    split at h
    · rename_i ht
      cases h
      refine ⟨h2, fun _ => ?_⟩
      rw [List.all_eq_true] at ht
      have hl' : X.env.scope.names.lookup y = some .local := by rw [o.sc]; exact hl
      refine PS.mono (L2.ps_setLc (g := tG c W0 t.2 (ML.asgT T cl t.1)) o.calm o.nd (by rw [o.N]; exact ixOf_get hi) hl' (L2.sw_true (by rw [o.sc]; exact hk) hl' hp ha) (it_snd s o e1) (L2.blkOk_by (by rw [o.N, o.sc]; exact h3)) (fun s' H C' cl' fp => tgN_snd (o.blk s' H C' cl' fp) 3 e2)
        (fun s' H C' cl' fp => if_snd s (o.blk s' H C' cl' fp) e3) (fun s' H C' cl' fp => s.E (o.blk s' H C' cl' fp) e4) (folded_of h1)) fun D τ H h => ?_
      refine lc_of_tN (fun i hi => by simpa using ht i hi) (tN_of_tE ?_)
      obtain ⟨ρ, S, σ, rs, re, p⟩ := h
      refine ⟨ρ, S, σ, rs, re, (Pst.lft rs re p).mono fun d S1 ρ1 H1 f1 rs1 p1 v r => ?_⟩
      exact Pst.ok p1 rs1 _ ((re.mono rs f1).set r i)
    · cases h
/-! ### a, b = x, y -/
theorem swp_of {x y : Str} {px py pt pt2 : Pos} {kt k2 : Nat} {a b : Expr} {env : Env} (hk : env.scope.kind = .function) (hx : env.scope.names.lookup x = some .local) (hy : env.scope.names.lookup y = some .local) (hl : (py.line == px.line) = true) (hne : x ≠ y)
    (ha : isStar a = false) (hb : isStar b = false) (h1 : [a, b].all (foldedForSure 8) = false) (h2 : [a, b].all (constantsAlone 8) = false) :
    swappedStores [.Tuple [.Name x px, .Name y py] kt pt] (.Tuple [a, b] k2 pt2) env = pure (some [x, y]) := by
  have kx : env.kindOf x = some .local := hx
  have ky : env.kindOf y = some .local := hy
  have bk : env.blockKind = .function := by unfold Env.blockKind; rw [hk]; rfl
  have st : ∀ w ∈ [a, b], isStar w = false := fun w hw => by
    simp only [List.mem_cons, List.not_mem_nil, or_false] at hw
    rcases hw with e | e <;> rw [e] <;> assumption
  have hne' : (y == x) = false := by simpa using fun h => hne (Eq.symm h)
  have hl' : py.line = px.line := by simpa using hl
  have e3 : [x, y].eraseDups = [x, y] := by simp [List.eraseDups_cons, hne']
  unfold swappedStores
  dsimp only
  refine (if_neg (by rw [bk]; simp)).trans ?_
  refine (if_neg ?_).trans ?_
  · intro z
    rw [List.any_eq_true] at z
    obtain ⟨w, hw, hz⟩ := z
    have := st w hw
    split at hz
    · cases this
    · cases hz
  simp only [h1, h2]
  simp [kx, ky, hl', Expr.pos, hne', List.eraseDups_cons]
theorem par_snd (s : Snd T c cl k R) (o : Ok c W cl k C X) {x y : Str} {px py pt pt2 : Pos} {kt k2 i j : Nat} {a b : Expr} {m : ML.Es} (h : esE R C [a, b] = some m) (hi : ixOf C.N x = some i) (hj : ixOf C.N y = some j) (hij : i ≠ j)
    (hk : C.sc.kind = .function) (hx : C.sc.names.lookup x = some .local) (hy : C.sc.names.lookup y = some .local) (hl : (py.line == px.line) = true) (hne : x ≠ y) (h1 : [a, b].all (foldedForSure 8) = false) (h2 : [a, b].all (constantsAlone 8) = false) :
    PS X (.Assign [.Tuple [.Name x px, .Name y py] kt pt] (.Tuple [a, b] k2 pt2) pos) (tS c W (ML.exS T Wn cl (.asg (.tup (.cons (.v i) (.cons (.v j) .nil))) (.tup m)))) := by
  obtain ⟨q1, q2, q3⟩ := es_snd s o h
  have hx' : X.env.scope.names.lookup x = some .local := by rw [o.sc]; exact hx
  have hy' : X.env.scope.names.lookup y = some .local := by rw [o.sc]; exact hy
  refine PS.mono (L2.ps_par o.calm o.nd (by rw [o.N]; exact ixOf_get hi) (by rw [o.N]; exact ixOf_get hj) hij hx' hy' q1 (swp_of (by rw [o.sc]; exact hk) hx' hy' hl hne (q3 a (by simp)) (q3 b (by simp)) h1 h2)) fun D τ H h => ?_
  obtain ⟨ρ, S, σ, rs, re, p⟩ := h
  have p1 := Pst.lft rs re p
  refine ⟨ρ, S, σ, rs, re, (Pst.bnd p1).monoE fun ds S1 ρ1 H1 ee f1 rs1 p2 vs rv => ?_⟩
  have hlen := evEs_len _ _ _ _ _ ee
  rw [q2] at hlen
  match ds, hlen with
  | [d1, d2], _ =>
    obtain ⟨v, w, ev, r1, r2⟩ := rv.two
    refine ⟨v, w, ev, ?_⟩
    have p3 := Pst.ok p2 rs1
    have p4 : Pst c NX ρ1 H1 (.ok (.nx ((σ.set i (some d1)).set j (some d2))) S1) (Flk c W D) := p3
    exact p4.ok rs1 _ (((re.mono rs f1).set r1 i).set r2 j)
end
end MS
end
section
set_option linter.all false
set_option maxRecDepth 100000
set_option maxHeartbeats 2000000
/-! MS25: blocks translated; a def's promise. -/
namespace MS
open PySem
open L2 (V Hp HO SqL SqT Rd upd upd_same upd_ne RelV Vals TE TA TT TS TI TG TGs VK XK WX Cx Inv PE PT PW PA PS PSs PI PG PGs OpR It Turn PIE PTs CallR MtR Gl Ends FnOk Room XK Sp)
def isDoc : Expr → Bool
  | .Constant (.str _) _ _ => true
  | _ => false
def tgS (R : Rc) (C : CEnv) : Expr → Option ML.Tg
  | .Subscript a b _ => if isSlice b then none else (R.E C a).bind fun x => (R.E C b).map fun y => .idx x y
  | tg => (tgN 4 C tg).map (·.1)
def parE (R : Rc) (C : CEnv) (x y : Str) (px py : Pos) (a b : Expr) : Option ML.S :=
  if decide (C.sc.kind = .function) && decide (C.sc.names.lookup x = some .local) && decide (C.sc.names.lookup y = some .local) && (py.line == px.line) && !decide (x = y) && !([a, b].all (foldedForSure 8)) && !([a, b].all (constantsAlone 8)) then
    (ixOf C.N x).bind fun i => (ixOf C.N y).bind fun j => if i = j then none else (esE R C [a, b]).map fun m => .asg (.tup (.cons (.v i) (.cons (.v j) .nil))) (.tup m)
  else none
def cmpS (R : Rc) (C : CEnv) (y : Str) (py lpos : Pos) (elt tg iter : Expr) (ifs : List Expr) (a : Int) (scope : Scope) : Option ML.S :=
  if decide (C.sc.kind = .function) && decide (C.sc.names.lookup y = some .local) && (py.line == lpos.line) && !(scope.names.any fun (n, k) => n == y && (k == .local || k == .cell)) then
    (ixOf C.N y).bind fun i => (compE R C elt tg iter ifs a scope).map fun m => .asg (.v i) (.lst m)
  else none
def asgS (R : Rc) (C : CEnv) (tg e : Expr) : Option ML.S := match tg, e with
  | .Name y py, .ListComp elt [⟨t, it, ifs, a⟩] scope lpos => cmpS R C y py lpos elt t it ifs a scope
  | .Tuple [.Name x px, .Name y py] _ _, .Tuple [a, b] _ _ => parE R C x y px py a b
  | tg, e => if isComp e || (isTupE tg && isTupE e) || isStar tg then none else (tgS R C tg).bind fun t => (R.E C e).map fun x => .asg t x
mutual
def stS (R : Rc) (C : CEnv) : Stmt → Option ML.S
  | .Assign [tg] e _ => asgS R C tg e
  | .Expr e _ => if isDoc e then some .pass else if isComp e then none else (R.E C e).map .ex
  | .If t a b _ => (R.T C t).bind fun x => (ssS R C a).bind fun y => (ssS R C b).map fun z => .iff x y z
  | .For tg it body [] _ => if isSet it then none else (itE R C tg it).bind fun i => (tgN 4 C tg).bind fun t => (ssS R C body).map fun b => .frr t.1 i b
  | .While t body [] _ => (R.T C t).bind fun x => (ssS R C body).map fun b => .whl x b
  | .Return (some e) _ => (R.E C e).map .ret
  | .Return none _ => some .retN
  | .Pass _ => some .pass
  | .Break _ => some .brk
  | .Continue _ => some .cnt
  | _ => none
def ssS (R : Rc) (C : CEnv) : List Stmt → Option ML.Ss
  | [] => some .nil
  | s :: r => (stS R C s).bind fun x => (ssS R C r).map fun y => .cons x y
end
section
variable {T : ML.Tab} {c : Cn} {cl : Nat → List ML.D → ML.St → ML.Out ML.D} {k : Nat} {R : Rc} {C : CEnv} {X : Cx} {W : WX} {pos : Pos} {Wn : Nat}
theorem swapped_none {tg e : Expr} {env : Env} (h : (isTupE tg && isTupE e) = false) (ht : (∀ es p, tg ≠ .List es p)) : swappedStores [tg] e env = pure none := by
  cases tg with
  | Tuple es j p =>
    cases e <;> first | rfl | cases h
  | List es p => exact absurd rfl (ht es p)
  | _ => rfl
theorem tgS_snd (s : Snd T c cl k R) (o : Ok c W cl k C X) {tg : Expr} {t : ML.Tg} (h : tgS R C tg = some t) : ∃ ts, PG X tg (tG c W ts (ML.asgT T cl t)) ∧ ∀ es p, tg ≠ .List es p := by
  cases tg with
  | Subscript a b p =>
    unfold tgS at h
    dsimp only at h
    split at h
    · cases h
    · rename_i hs
      obtain ⟨y, e3, h⟩ := Option.bind_eq_some_iff.mp h
      obtain ⟨z, e4, h⟩ := Option.map_eq_some_iff.mp h
      subst h
      have hs : isSlice b = false := by simpa using hs
      refine ⟨[], g_idx o.u1 (s.E o e3) (s.E o e4) fun v => ?_, fun _ _ z => nomatch z⟩
      cases b <;> first | rfl | cases hs
  | List es p => simp [tgS, tgN] at h
  | _ =>
    unfold tgS at h
    obtain ⟨tt, e3, h⟩ := Option.map_eq_some_iff.mp h
    subst h
    exact ⟨_, tgN_snd o 4 e3, fun _ _ z => nomatch z⟩
theorem asg_snd (s : Snd T c cl k R) (o : Ok c W cl k C X) {tg e : Expr} {m : ML.S} (h : asgS R C tg e = some m) : PS X (.Assign [tg] e pos) (tS c W (ML.exS T Wn cl m)) := by
  unfold asgS at h
  split at h
  · unfold cmpS at h
    split at h
    · rename_i hc
      simp only [Bool.and_eq_true, Bool.not_eq_true', decide_eq_true_eq] at hc
      obtain ⟨i, e1, h⟩ := Option.bind_eq_some_iff.mp h
      obtain ⟨l, e2, h⟩ := Option.map_eq_some_iff.mp h
      subst h
      obtain ⟨h1, h2⟩ := setComp_snd s o (spos := pos) (Wn := Wn) e2 e1 hc.1.1.2 hc.1.2 hc.2 hc.1.1.1
      subst h1
      exact h2 rfl
    · cases h
  · unfold parE at h
    split at h
    · rename_i hc
      simp only [Bool.and_eq_true, Bool.not_eq_true', decide_eq_true_eq, decide_eq_false_iff_not] at hc
      obtain ⟨⟨⟨⟨⟨⟨c1, c2⟩, c3⟩, c4⟩, c5⟩, c6⟩, c7⟩ := hc
      obtain ⟨i, e1, h⟩ := Option.bind_eq_some_iff.mp h
      obtain ⟨j, e2, h⟩ := Option.bind_eq_some_iff.mp h
      split at h
      · cases h
      · rename_i hij
        obtain ⟨l, e3, h⟩ := Option.map_eq_some_iff.mp h
        subst h
        exact par_snd s o e3 e1 e2 hij c1 c2 c3 c4 c5 c6 c7
    · cases h
  · split at h
    · cases h
    · rename_i hc
      simp only [Bool.or_eq_true, not_or, Bool.not_eq_true] at hc
      obtain ⟨t, e1, h⟩ := Option.bind_eq_some_iff.mp h
      obtain ⟨x, e2, h⟩ := Option.map_eq_some_iff.mp h
      subst h
      obtain ⟨ts, g1, g2⟩ := tgS_snd s o e1
      exact s_asg (s.E o e2) g1 (show swapsWith e (some tg) _ _ = _ from swaps_of hc.1.1) (swapped_none hc.1.2 g2) (not_star hc.2)
mutual
theorem st_snd (s : Snd T c cl k R) (o : Ok c W cl k C X) (own : PassesOwn (model X.prog X.w) X.A X.env X.xe) : ∀ {st : Stmt} {m : ML.S}, stS R C st = some m → PS X st (tS c W (ML.exS T Wn cl m))
  | .Assign [tg] e p, m, h => asg_snd s o (by simpa only [stS] using h)
  | .Expr e p, m, h => by
    simp only [stS] at h
    split at h
    · rename_i hd
      cases h
      cases e <;> first | cases hd | skip
      rename_i v j p2
      cases v <;> first | cases hd | skip
      exact PS.mono L2.ps_doc fun D τ H h => by
        obtain ⟨ρ, S, σ, rs, re, p⟩ := h
        exact Pst.ok p rs τ re
    · split at h
      · cases h
      · rename_i hc
        obtain ⟨x, e1, h⟩ := Option.map_eq_some_iff.mp h
        subst h
        exact s_ex (s.E o e1) (swaps_of (by simpa using hc))
  | .If t a b p, m, h => by
    simp only [stS] at h
    obtain ⟨x, e1, h⟩ := Option.bind_eq_some_iff.mp h
    obtain ⟨y, e2, h⟩ := Option.bind_eq_some_iff.mp h
    obtain ⟨z, e3, h⟩ := Option.map_eq_some_iff.mp h
    subst h
    exact s_if (s.Te o e1) (ss_snd s o own e2) (ss_snd s o own e3)
  | .For tg it body [] p, m, h => by
    simp only [stS] at h
    split at h
    · cases h
    · rename_i hs
      obtain ⟨i, e1, h⟩ := Option.bind_eq_some_iff.mp h
      obtain ⟨t, e2, h⟩ := Option.bind_eq_some_iff.mp h
      obtain ⟨b, e3, h⟩ := Option.map_eq_some_iff.mp h
      subst h
      exact s_for own o.calm (it_snd s o e1) (tgN_snd o 4 e2) (ss_snd s o own e3) (folded_of (by simpa using hs))
  | .While t body [] p, m, h => by
    simp only [stS] at h
    obtain ⟨x, e1, h⟩ := Option.bind_eq_some_iff.mp h
    obtain ⟨b, e3, h⟩ := Option.map_eq_some_iff.mp h
    subst h
    exact s_while own (s.Te o e1) (ss_snd s o own e3)
  | .Return (some e) p, m, h => by
    simp only [stS] at h
    obtain ⟨x, e1, h⟩ := Option.map_eq_some_iff.mp h
    subst h
    exact s_ret (s.E o e1)
  | .Return none p, m, h => by
    simp only [stS] at h
    cases h
    exact s_retN
  | .Pass p, m, h => by
    simp only [stS] at h
    cases h
    exact s_pass
  | .Break p, m, h => by
    simp only [stS] at h
    cases h
    exact s_brk
  | .Continue p, m, h => by
    simp only [stS] at h
    cases h
    exact s_cnt
  | .Assign [] _ _, m, h | .Assign (_ :: _ :: _) _ _, m, h | .For _ _ _ (_ :: _) _, m, h | .While _ _ (_ :: _) _, m, h => by simp [stS] at h
  | .FunctionDef .., m, h | .AsyncFunctionDef .., m, h | .ClassDef .., m, h | .Delete .., m, h | .TypeAlias .., m, h | .AugAssign .., m, h | .AnnAssign .., m, h | .AsyncFor .., m, h | .With .., m, h | .AsyncWith .., m, h | .Match .., m, h => by simp [stS] at h
  | .Raise .., m, h | .Try .., m, h | .TryStar .., m, h | .Assert .., m, h | .Import .., m, h | .ImportFrom .., m, h | .Global .., m, h | .Nonlocal .., m, h => by simp [stS] at h
theorem ss_snd (s : Snd T c cl k R) (o : Ok c W cl k C X) (own : PassesOwn (model X.prog X.w) X.A X.env X.xe) : ∀ {st : List Stmt} {m : ML.Ss}, ssS R C st = some m → PSs X st (tS c W (ML.exSs T Wn cl m))
  | [], m, h => by
    simp only [ssS] at h
    cases h
    exact ss_nil
  | st :: r, m, h => by
    simp only [ssS] at h
    obtain ⟨x, e1, h⟩ := Option.bind_eq_some_iff.mp h
    obtain ⟨y, e2, h⟩ := Option.map_eq_some_iff.mp h
    subst h
    exact ss_cons (st_snd s o own e1) (ss_snd s o own e2)
end
end
end MS
end
section
set_option linter.all false
set_option maxRecDepth 100000
set_option maxHeartbeats 2000000
/-! MS26: every def keeps ML's promise. -/
namespace MS
open PySem
open L2 (V Hp HO SqL SqT Rd upd upd_same upd_ne RelV Vals TE TA TT TS TI TG TGs VK XK WX Cx Inv PE PT PW PA PS PSs PI PG PGs OpR It Turn PIE PTs CallR MtR Gl Ends FnOk Room XK Sp)
/-- a def and what it is in ML -/
structure Tr where
  x : Str
  name : Str
  qual : Str
  params : Arguments
  body : List Stmt
  scope : Scope
  f : Nat
  ps : List Str
  N : List Str
  fn : ML.Fn
def lcOf (sc : Scope) (x : Str) : Bool := decide (sc.names.lookup x = some .local) || decide (sc.names.lookup x = some .cell)
def fsB (N ps : List Str) (sc : Scope) : Bool :=
  decide (sc.kind = .function) && !sc.isCoroutine && !sc.isGenerator && decide N.Nodup && decide (N.take ps.length = ps) && (ps.all fun x => decide (sc.names.lookup x = some .local) || decide (sc.names.lookup x = some .cell)) && sc.names.all fun y => !decide (y.2 = .free)
theorem fs_of {N ps : List Str} {sc : Scope} (h : fsB N ps sc = true) : L2.FnScope N ps sc := by
  unfold fsB at h
  simp only [Bool.and_eq_true, decide_eq_true_eq, Bool.not_eq_true', List.all_eq_true, Bool.or_eq_true, decide_eq_false_iff_not] at h
  obtain ⟨⟨⟨⟨⟨⟨h1, h2⟩, h3⟩, h4⟩, h5⟩, h6⟩, h7⟩ := h
  exact ⟨h1, h2, h3, h4, h5, h6, h7⟩
def Tr.C (fr : List Str) (trs : List Tr) (t : Tr) : CEnv := ⟨t.N, t.scope, lcOf t.scope, fr, trs.map fun t => (t.x, (t.f, t.ps.length)), []⟩
structure Tr.Good (T : ML.Tab) (fr : List Str) (fns : List (Str × (Nat × Nat))) (t : Tr) : Prop where
  fs : fsB t.N t.ps t.scope = true
  tr : ssS (rc 60) ⟨t.N, t.scope, lcOf t.scope, fr, fns, []⟩ t.body = some t.fn.body
  n : t.fn.n = t.N.length
  ar : t.fn.ar = t.ps.length
  fn : T.fn t.f = some t.fn
section
variable {P : Program} {w : World} {K : PySem.W.Frag} {mg : Str → Option Value} {base : Heap} {T : ML.Tab} {Wn : Nat} {c : Cn} {fr : List Str} {trs : List Tr} {adr : Str → Addr}
theorem glue (hK : c.K = K) (good : ∀ t ∈ trs, t.Good T fr (trs.map fun t => (t.x, (t.f, t.ps.length)))) (free : ∀ x ∈ fr, mg x = none)
    (facts : ∀ t ∈ trs, mg t.x = some (.ref (adr t.x)) ∧ PySem.W.keepIn K (.ref (adr t.x)) = true ∧ ∃ fd, L2.Binds K fd t.ps [] ∧ L2.FunD K t.name t.qual t.params t.body t.scope [] [] (adr t.x) fd) :
    ∀ n, ∀ t ∈ trs, ∀ fd, L2.FunD K t.name t.qual t.params t.body t.scope [] [] (adr t.x) fd → FnOk P w K mg base (L2.CX P w) n (adr t.x) fd t.ps (spF c (ML.call T Wn n t.f))
  | 0, t, ht, fd, F => by
    have no : ∀ vs H Q E, ¬ spF c (ML.call T Wn 0 t.f) vs H Q E := fun vs H Q E ⟨ρ, S, ds, _, _, p⟩ => by
      simp only [ML.call] at p
      exact p
    exact ⟨fun vs H Q E h => (no _ _ _ _ h).elim, fun A outer s H args us vs Q E _ _ _ _ h => (no _ _ _ _ h).elim⟩
  | n + 1, t, ht, fd, F => by
    have g := good t ht
    have S := fs_of g.fs
    have hsp : ∀ vs H Q E, spF c (ML.call T Wn (n + 1) t.f) vs H Q E → spF c (ML.runFn T Wn (ML.call T Wn n) t.fn) vs H Q E := fun vs H Q E ⟨ρ, S, ds, rs, r, p⟩ => by
      simp only [ML.call, g.fn] at p
      exact ⟨ρ, S, ds, rs, r, p⟩
    have hlen : ∀ vs H Q E, spF c (ML.call T Wn (n + 1) t.f) vs H Q E → vs.length = t.ps.length := fun vs H Q E h => by
      obtain ⟨ρ, S, ds, rs, r, p⟩ := hsp _ _ _ _ h
      unfold ML.runFn at p
      by_cases ha : ds.length = t.fn.ar
      · rw [← r.len, ha, g.ar]
      · rw [if_neg ha] at p; exact p.elim
    refine L2.FunD.ok F S hlen fun cdv A outer s H vs Q E hr h => ?_
    let X : Cx := L2.cxOf (L2.CX P w) P w K mg base t.N t.qual t.scope (adr t.x) cdv A outer s H E
    have tk : L2.Takes X (fun cls d _ H => E cls d H) := L2.takes_of rfl rfl rfl rfl
    have own : PassesOwn (model X.prog X.w) X.A X.env X.xe := L2.passes_of rfl
    have ok : Ok c (fun cls d _ H => E cls d H) (ML.call T Wn n) n (t.C fr trs) X := {
      N := rfl
      sc := rfl
      K := hK.symm
      nd := S.nd
      calm := rfl
      tk := tk
      room := hr
      lc := fun x h => ⟨by
        have h : (decide (t.scope.names.lookup x = some .local) || decide (t.scope.names.lookup x = some .cell)) = true := h
        simp only [Bool.or_eq_true, decide_eq_true_eq] at h
        exact h, .inl rfl⟩
      gl := fun x h => free x (by simpa [Tr.C] using h)
      fn := fun x f ar h => by
        have hm := PySem.mem_of_lookup h
        obtain ⟨t', ht', e⟩ := List.mem_map.mp hm
        simp only [Prod.mk.injEq] at e
        obtain ⟨e1, e2, e3⟩ := e
        obtain ⟨m1, m2, fd', m3, m4⟩ := facts t' ht'
        subst e1 e2 e3
        exact ⟨adr t'.x, fd', t'.ps, m1, m2, m3, rfl, _, glue hK good free facts n t' ht' fd' m4, fun _ _ _ _ h _ => h⟩
      cs := fun x d h => by cases h }
    exact ⟨_, ss_snd (rc_snd 60) ok own g.tr, body_run g.n (hsp _ _ _ _ h)⟩
end
end MS
end
section
set_option linter.all false
set_option maxRecDepth 100000
set_option maxHeartbeats 2000000
/-! MS27: a law's end. -/
namespace MS
open PySem
open L2 (V Hp HO SqL SqT Rd upd upd_same upd_ne RelV Vals TE TA TT TS TI TG TGs VK XK WX Cx Inv PE PT PW PA PS PSs PI PG PGs OpR It Turn PIE PTs CallR MtR Gl Ends FnOk Room XK Sp)
def faOf (trs : List Tr) (fr : List Str) : List He.Fa := (trs.map fun t => .glo t.x) ++ fr.map .free
def fnOf (trs : List Tr) : List He.DefD := trs.map fun t => ⟨(t.x, none), t.name, t.qual, t.params, t.body, t.scope, [], []⟩
def Tr.Bind (t : Tr) : Prop := ∀ (kV doc pm : Value) (an : Option Addr) (cdv ct : Value) (us : List Value), us.length = t.ps.length → bindArgs (PySem.W.fnOf t.name t.qual t.params t.body t.scope .none kV doc pm an cdv ct) ⟨us, []⟩ = pure (t.ps.zip us)
section
variable {K : PySem.W.Frag} {h : Heap} {mg : Str → Option Value} {trs : List Tr} {fr : List Str}
theorem fact_mem {fa : List He.Fa} {fn : List He.DefD} (c : He.SaysD fa fn K) {f : He.Fa} (hf : f ∈ fa) : f.ok K = true := by
  obtain ⟨i, hi⟩ := List.getElem?_of_mem hf
  exact c.fact i hi
theorem facts_of (X : K.In h) (G : h.Ns mainGlobals mg) (c : He.SaysD (faOf trs fr) (fnOf trs) K) (bind : ∀ t ∈ trs, t.Bind) : (∀ x ∈ fr, mg x = none) ∧
    ∀ t ∈ trs, mg t.x = some (.ref (He.ga K t.x)) ∧ PySem.W.keepIn K (.ref (He.ga K t.x)) = true ∧ ∃ fd, L2.Binds K fd t.ps [] ∧ L2.FunD K t.name t.qual t.params t.body t.scope [] [] (He.ga K t.x) fd := by
  refine ⟨fun x hx => He.free_ok X G (fact_mem c (List.mem_append_right _ (List.mem_map_of_mem hx))), fun t ht => ?_⟩
  have hm : (⟨(t.x, none), t.name, t.qual, t.params, t.body, t.scope, [], []⟩ : He.DefD) ∈ fnOf trs := List.mem_map.mpr ⟨t, ht, rfl⟩
  obtain ⟨i, hi⟩ := List.getElem?_of_mem hm
  obtain ⟨fd, F⟩ := c.def_ i hi
  have F : L2.FunD K t.name t.qual t.params t.body t.scope [] [] (He.ga K t.x) fd := F
  refine ⟨He.glo_ok X G (fact_mem c (List.mem_append_left _ (List.mem_map.mpr ⟨t, ht, rfl⟩))), F.kp, fd, fun s us _ hl => ?_, F⟩
  rw [List.append_nil] at hl ⊢
  exact L2.FunD.bindsA F (bind t ht) s us hl
theorem sq_r {H : Hp} {a : Addr} {xs : List V} (hO : L2.Only H) (hS : SqL K H a xs) : SqR K H a xs := by
  rcases hS with (h | ⟨o, h⟩) | h
  · rcases hO a with z | ⟨o, ys, z⟩
    · rw [z] at h; cases h
    · rw [z] at h; cases h
  · exact .inl ⟨o, h⟩
  · exact .inr h
theorem rds_int {c : Cn} {ρ : List Addr} {H : Hp} : ∀ ns : List Int, RDs c ρ H (ns.map .int) (ns.map V.int)
  | [] => by simp [RDs]
  | n :: ns => by
    simp only [List.map_cons, RDs]
    exact ⟨.int n, ns.map V.int, rfl, by simp [RD], rds_int ns⟩
theorem law_sp {c : Cn} {g : List ML.D → ML.St → ML.Out ML.D} (hK : c.K = K) {ns : List Int} (hn : ns.length ≤ 63) (hg : ∃ S, g [.rol (ns.map .int)] [] = .ok (.bl true) S) {H : Hp} {a : Addr} (hO : L2.Only H) (hS : SqL K H a (ns.map V.int)) :
    spF c g [.ref a] H (fun v _ => v = .bl true) fun _ _ _ => False := by
  obtain ⟨S, e⟩ := hg
  refine ⟨[], [], [.rol (ns.map .int)], ⟨rfl, List.nodup_nil, fun i o p e1 _ => by simp at e1⟩, ?_, ?_⟩
  · simp only [RDs]
    refine ⟨.ref a, [], rfl, ?_, rfl⟩
    simp only [RD]
    exact ⟨by rw [List.length_map]; exact Nat.le_trans hn (by decide), a, _, rfl, by rw [hK]; exact sq_r hO hS, rds_int ns⟩
  · rw [e]
    intro ρ' H' _ _ v r
    simpa [RD] using r
/-- nothing is let out: the end's own form -/
theorem to_CX0 {P : Program} {w : World} {K : PySem.W.Frag} {mg : Str → Option Value} {base : Heap} {k : Nat} {f : Addr} {fd : FuncData} {ps : List Str} {sp : Sp} (F : FnOk P w K mg base (L2.CX P w) k f fd ps sp) :
    FnOk P w K mg base L2.CX0 k f fd ps fun vs H Q _ => sp vs H Q fun _ _ _ => False :=
  ⟨fun vs H Q _ h => F.len vs H Q _ h, fun A outer s H args us vs Q E a b d e h => codeAny_mono (F.run A outer s H args us vs Q _ a b d e h) fun r s' x => by
    cases r with
    | ok fl => cases fl <;> exact x
    | error z =>
      obtain ⟨_, _, _, _, _, _, _, _, _, _, _, _, y⟩ := x
      exact y.elim⟩
/-- what the head wants of a law -/
theorem law_F {P : Program} {w : World} {T : ML.Tab} {Wn n : Nat} {c0 : PySem.W.Frag → Cn} {law : Tr} {f : Addr} (hc : (c0 K).K = K) (X : K.In h) (G : h.Ns mainGlobals mg) (hmg : mg law.x = some (.ref f)) (c : He.SaysD (faOf trs fr) (fnOf trs) K)
    (good : ∀ t ∈ trs, t.Good T fr (trs.map fun t => (t.x, (t.f, t.ps.length)))) (bind : ∀ t ∈ trs, t.Bind) (hl : law ∈ trs) {x : Str} (hps : law.ps = [x])
    (hlaw : ∀ ns : List Int, ns.length ≤ 63 → ∃ S, ML.call T Wn n law.f [.rol (ns.map .int)] [] = .ok (.bl true) S) :
    ∃ (K' : PySem.W.Frag) (fd : FuncData) (sp : Sp), K'.In h ∧ (∀ (s : Shared) (u : Value), BindsTo s fd ⟨[u], []⟩ [(x, u)]) ∧
        (∀ (H : Hp) (a : Addr) (ns : List Int), ns.length ≤ 63 → L2.Only H → SqL K' H a (ns.map V.int) → sp [.ref a] H (fun v _ => v = .bl true) fun _ _ _ => False) ∧
        ∀ base : Heap, K'.In base → base.Ns mainGlobals mg → FnOk P w K' mg base L2.CX0 n f fd [x] sp := by
  obtain ⟨h1, h2⟩ := facts_of X G c bind
  obtain ⟨m1, m2, fd, m3, m4⟩ := h2 law hl
  have e := m1.symm.trans hmg
  cases e
  refine ⟨K, fd, fun vs H Q _ => spF (c0 K) (ML.call T Wn n law.f) vs H Q fun _ _ _ => False, X, fun s u => ?_, fun H a ns hn hO hS => law_sp hc hn (hlaw ns hn) hO hS, fun base _ _ => ?_⟩
  · have := L2.FunD.bindsA m4 (bind law hl) s [u] (by rw [hps]; rfl)
    rw [hps] at this
    exact this
  · have := glue (P := P) (w := w) (base := base) (c := c0 K) (Wn := Wn) hc good h1 h2 n law hl fd m4
    rw [hps] at this
    exact to_CX0 this
end
end MS
end
section
set_option linter.all false
set_option maxRecDepth 100000
set_option maxHeartbeats 0
namespace Hd
open PySem PySem.Spec PyProof.Rows L2
def top (i : Nat) : Stmt := PySem.Challenge.pw_needfill_k50_things_in_common.main.body.getD i (.Pass ⟨0, 0, 0, 0⟩)
def f_parts_of : ML.Fn := open ML in ⟨1, 1, (.cons (.iff (.cmp .isin (.idx (.var 0) (.cst (.int 0))) (.tup (.cons (.cst (.str [109, 97, 100, 101])) (.cons (.cst (.str [99, 97, 108, 108])) .nil))))
    (.cons (.ret (.idx (.var 0) (.cst (.int 2))))
    .nil)
    .nil)
    (.cons (.iff (.cmp .isin (.idx (.var 0) (.cst (.int 0))) (.tup (.cons (.cst (.str [101, 105, 116, 104, 101, 114])) (.cons (.cst (.str [115, 97, 109, 101])) .nil))))
    (.cons (.ret (.sl (.var 0) (.some (.cst (.int 1))) .none))
    .nil)
    .nil)
    (.cons (.ret (.tup .nil))
    .nil)))⟩
def f_add_nodes : ML.Fn := open ML in ⟨3, 5, (.cons (.ex (.mth .append (.var 0) (.cons (.tup (.cons (.var 1) (.cons (.var 2) .nil))) .nil)))
    (.cons (.frr (.tup (.cons (.v 3) (.cons (.v 4) .nil))) (.enum (.ofE (.call 0 (.cons (.var 2) .nil))))
    (.cons (.ex (.call 1 (.cons (.var 0) (.cons (.bin .add (.var 1) (.tup (.cons (.var 3) .nil))) (.cons (.var 4) .nil)))))
    .nil))
    .nil))⟩
def f_nodes_of : ML.Fn := open ML in ⟨1, 2, (.cons (.asg (.v 1) (.lst (.disp .nil)))
    (.cons (.ex (.call 1 (.cons (.var 1) (.cons (.tup .nil) (.cons (.var 0) .nil)))))
    (.cons (.ret (.blt .tup (.cons (.var 1) .nil)))
    .nil)))⟩
def f_names_of : ML.Fn := open ML in ⟨1, 4, (.cons (.asg (.v 1) (.lst (.disp .nil)))
    (.cons (.frr (.tup (.cons (.v 2) (.cons (.v 3) .nil))) (.e (.call 2 (.cons (.var 0) .nil)))
    (.cons (.iff (.and (.cmp .eq (.idx (.var 3) (.cst (.int 0))) (.cst (.str [110, 97, 109, 101]))) (.cmp .notin (.idx (.var 3) (.cst (.int 1))) (.var 1)))
    (.cons (.ex (.mth .append (.var 1) (.cons (.idx (.var 3) (.cst (.int 1))) .nil)))
    .nil)
    .nil)
    .nil))
    (.cons (.ret (.blt .tup (.cons (.var 1) .nil)))
    .nil)))⟩
def f_own_names : ML.Fn := open ML in ⟨1, 5, (.cons (.asg (.v 1) (.lst (.disp .nil)))
    (.cons (.frr (.v 2) (.l (.add (.comp (.idx (.var 3) (.cst (.int 1))) [3] (.v 3) (.e (.idx (.var 0) (.cst (.int 0)))) .none) (.disp (.cons (.idx (.var 0) (.cst (.int 1))) .nil))))
    (.cons (.ex (.mthL .extend (.var 1) (.comp (.var 4) [4] (.v 4) (.e (.call 3 (.cons (.var 2) .nil))) (.some (.cmp .notin (.var 4) (.var 1))))))
    .nil))
    (.cons (.ret (.var 1))
    .nil)))⟩
def f_side_of : ML.Fn := open ML in ⟨2, 3, (.cons (.iff (.cmp .eq (.idx (.var 0) (.cst (.int 0))) (.cst (.str [110, 97, 109, 101])))
    (.cons (.ret (.tup (.cons (.cst (.str [110, 97, 109, 101])) (.cons (.bin .add (.var 1) (.idx (.var 0) (.cst (.int 1)))) .nil))))
    .nil)
    .nil)
    (.cons (.ret (.tup (.cons (.cst (.str [109, 97, 100, 101])) (.cons (.idx (.var 0) (.cst (.int 1))) (.cons (.bl1 .tup (.comp (.call 4 (.cons (.var 2) (.cons (.var 1) .nil))) [2] (.v 2) (.e (.idx (.var 0) (.cst (.int 2)))) .none)) .nil)))))
    .nil))⟩
def f_known_as : ML.Fn := open ML in ⟨2, 2, (.cons (.whl (.and (.cmp .eq (.idx (.var 0) (.cst (.int 0))) (.cst (.str [110, 97, 109, 101]))) (.cmp .isin (.idx (.var 0) (.cst (.int 1))) (.var 1)))
    (.cons (.asg (.v 0) (.idx (.var 1) (.idx (.var 0) (.cst (.int 1)))))
    .nil))
    (.cons (.ret (.var 0))
    .nil))⟩
def f_stands_in : ML.Fn := open ML in ⟨3, 5, (.cons (.asg (.v 3) (.call 6 (.cons (.var 1) (.cons (.var 2) .nil))))
    (.cons (.iff (.cmp .eq (.idx (.var 3) (.cst (.int 0))) (.cst (.str [110, 97, 109, 101])))
    (.cons (.ret (.cmp .eq (.idx (.var 3) (.cst (.int 1))) (.var 0)))
    .nil)
    .nil)
    (.cons (.ret (.bl1 .any (.comp (.call 5 (.cons (.var 0) (.cons (.var 4) (.cons (.var 2) .nil)))) [4] (.v 4) (.e (.idx (.var 3) (.cst (.int 2)))) .none)))
    .nil)))⟩
def f_joined : ML.Fn := open ML in ⟨3, 7, (.cons (.asg (.tup (.cons (.v 3) (.cons (.v 4) .nil))) (.tup (.cons (.call 6 (.cons (.var 0) (.cons (.var 2) .nil))) (.cons (.call 6 (.cons (.var 1) (.cons (.var 2) .nil))) .nil))))
    (.cons (.iff (.cmp .eq (.var 3) (.var 4))
    (.cons (.ret (.cst (.bl true)))
    .nil)
    .nil)
    (.cons (.iff (.cmp .ne (.idx (.var 3) (.cst (.int 0))) (.cst (.str [110, 97, 109, 101])))
    (.cons (.asg (.tup (.cons (.v 3) (.cons (.v 4) .nil))) (.tup (.cons (.var 4) (.cons (.var 3) .nil))))
    .nil)
    .nil)
    (.cons (.iff (.cmp .eq (.idx (.var 3) (.cst (.int 0))) (.cst (.str [110, 97, 109, 101])))
    (.cons (.iff (.call 5 (.cons (.idx (.var 3) (.cst (.int 1))) (.cons (.var 4) (.cons (.var 2) .nil))))
    (.cons (.ret (.cst (.bl false)))
    .nil)
    .nil)
    (.cons (.asg (.idx (.var 2) (.idx (.var 3) (.cst (.int 1)))) (.var 4))
    (.cons (.ret (.cst (.bl true)))
    .nil)))
    .nil)
    (.cons (.iff (.or (.cmp .ne (.idx (.var 3) (.cst (.int 1))) (.idx (.var 4) (.cst (.int 1)))) (.cmp .ne (.blt .len (.cons (.idx (.var 3) (.cst (.int 2))) .nil)) (.blt .len (.cons (.idx (.var 4) (.cst (.int 2))) .nil))))
    (.cons (.ret (.cst (.bl false)))
    .nil)
    .nil)
    (.cons (.ret (.bl1 .all (.comp (.call 7 (.cons (.var 5) (.cons (.var 6) (.cons (.var 2) .nil)))) [5, 6] (.tup (.cons (.v 5) (.cons (.v 6) .nil))) (.zip (.ofE (.idx (.var 3) (.cst (.int 2)))) (.ofE (.idx (.var 4) (.cst (.int 2))))) .none)))
    .nil))))))⟩
def f_resolved : ML.Fn := open ML in ⟨3, 5, (.cons (.asg (.v 3) (.call 6 (.cons (.var 0) (.cons (.var 1) .nil))))
    (.cons (.iff (.cmp .eq (.idx (.var 3) (.cst (.int 0))) (.cst (.str [110, 97, 109, 101])))
    (.cons (.ret (.tup (.cons (.cst (.str [110, 97, 109, 101])) (.cons (.mth .setdefault (.var 2) (.cons (.idx (.var 3) (.cst (.int 1))) (.cons (.blt .str (.cons (.bin .add (.blt .len (.cons (.var 2) .nil)) (.cst (.int 1))) .nil)) .nil))) .nil))))
    .nil)
    .nil)
    (.cons (.ret (.tup (.cons (.cst (.str [109, 97, 100, 101])) (.cons (.idx (.var 3) (.cst (.int 1))) (.cons (.bl1 .tup (.comp (.call 8 (.cons (.var 4) (.cons (.var 1) (.cons (.var 2) .nil)))) [4] (.v 4) (.e (.idx (.var 3) (.cst (.int 2)))) .none)) .nil)))))
    .nil)))⟩
def f_common : ML.Fn := open ML in ⟨2, 12, (.cons (.asg (.v 2) .dict0)
    (.cons (.iff (.cmpL true (.comp (.idx (.var 10) (.cst (.int 0))) [10] (.v 10) (.e (.idx (.var 0) (.cst (.int 0)))) .none) (.comp (.idx (.var 10) (.cst (.int 0))) [10] (.v 10) (.e (.idx (.var 1) (.cst (.int 0)))) .none))
    (.cons (.ret (.cst (.non)))
    .nil)
    .nil)
    (.cons (.frr (.tup (.cons (.v 3) (.cons (.v 4) .nil))) (.zip (.ofE (.idx (.var 0) (.cst (.int 0)))) (.ofE (.idx (.var 1) (.cst (.int 0)))))
    (.cons (.iff (.not (.call 7 (.cons (.call 4 (.cons (.idx (.var 3) (.cst (.int 1))) (.cons (.cst (.str [97])) .nil))) (.cons (.call 4 (.cons (.idx (.var 4) (.cst (.int 1))) (.cons (.cst (.str [98])) .nil))) (.cons (.var 2) .nil)))))
    (.cons (.ret (.cst (.non)))
    .nil)
    .nil)
    .nil))
    (.cons (.asg (.v 5) .dict0)
    (.cons (.asg (.v 6) (.lst (.disp .nil)))
    (.cons (.frr (.tup (.cons (.v 7) (.cons (.v 8) .nil))) (.e (.tup (.cons (.tup (.cons (.var 0) (.cons (.cst (.str [97])) .nil))) (.cons (.tup (.cons (.var 1) (.cons (.cst (.str [98])) .nil))) .nil))))
    (.cons (.asg (.v 9) (.call 9 (.cons (.var 7) .nil)))
    (.cons (.ex (.mth .append (.var 6) (.cons (.bl1 .tup (.comp (.tup (.cons (.var 11) (.cons (.call 8 (.cons (.tup (.cons (.cst (.str [110, 97, 109, 101])) (.cons (.bin .add (.var 8) (.var 11)) .nil))) (.cons (.var 2) (.cons (.var 5) .nil)))) .nil))) [11] (.v 11) (.e (.var 9)) .none)) .nil)))
    .nil)))
    (.cons (.ret (.tup (.cons (.idx (.var 6) (.cst (.int 0))) (.cons (.idx (.var 6) (.cst (.int 1))) .nil))))
    .nil)))))))⟩
def f__law_deck : ML.Fn := open ML in ⟨1, 3, (.cons (.asg (.v 1) (.lst (.add (.comp (.blt .abs (.cons (.var 2) .nil)) [2] (.v 2) (.l (.sl (.ofE (.var 0)) .none (.some (.cst (.int 63))))) .none) (.ofE (.bin .mul (.lst (.disp (.cons (.cst (.int 0)) .nil))) (.blt .int (.cons (.cmp .eq (.blt .len (.cons (.var 0) .nil)) (.cst (.int 0))) .nil)))))))
    (.cons (.ret (.lst (.disp (.cons (.var 1) (.cons (.cst (.int 0)) (.cons (.lst (.comp (.bin .mul (.var 2) (.blt .int (.cons (.cmp .ge (.var 2) (.bin .pow (.cst (.int 10)) (.cst (.int 18)))) .nil))) [2] (.v 2) (.e (.var 1)) .none)) .nil))))))
    .nil))⟩
def f__law_next : ML.Fn := open ML in ⟨1, 9, (.cons (.asg (.tup (.cons (.v 1) (.cons (.v 2) (.cons (.v 3) .nil)))) (.var 0))
    (.cons (.asg (.v 4) (.bin .mod (.var 2) (.blt .len (.cons (.var 1) .nil))))
    (.cons (.asg (.idx (.var 0) (.cst (.int 1))) (.bin .add (.var 2) (.cst (.int 1))))
    (.cons (.iff (.cmp .gt (.idx (.var 3) (.var 4)) (.cst (.int 0)))
    (.cons (.asg (.v 5) (.bin .mod (.idx (.var 3) (.var 4)) (.cst (.int 1000))))
    (.cons (.asg (.idx (.var 3) (.var 4)) (.bin .fdiv (.idx (.var 3) (.var 4)) (.cst (.int 1000))))
    (.cons (.ret (.var 5))
    .nil)))
    .nil)
    (.cons (.asg (.v 6) (.lst (.disp (.cons (.cst (.int 2147483629)) (.cons (.cst (.int 2147483587)) (.cons (.cst (.int 2147483579)) (.cons (.cst (.int 2147483563)) (.cons (.cst (.int 2147483549)) (.cons (.cst (.int 2147483543)) (.cons (.cst (.int 2147483497)) .nil))))))))))
    (.cons (.asg (.v 7) (.bin .mod (.idx (.var 1) (.bin .mod (.bin .add (.bin .add (.bin .mul (.var 4) (.var 4)) (.var 2)) (.cst (.int 1))) (.blt .len (.cons (.var 1) .nil)))) (.cst (.int 1000003))))
    (.cons (.asg (.v 8) (.bin .add (.bin .add (.bin .add (.bin .mod (.idx (.var 1) (.var 4)) (.cst (.int 2147483647))) (.bin .mul (.cst (.int 69621)) (.var 2))) (.bin .mul (.cst (.int 7919)) (.var 7))) (.cst (.int 91193))))
    (.cons (.asg (.v 8) (.bin .mod (.bin .pow (.var 8) (.cst (.int 3))) (.idx (.var 6) (.bin .mod (.var 2) (.cst (.int 7))))))
    (.cons (.ret (.bin .mod (.bin .fdiv (.bin .mod (.bin .pow (.bin .add (.var 8) (.bin .mul (.cst (.int 7907)) (.var 2))) (.cst (.int 2))) (.cst (.int 2147483477))) (.cst (.int 1009))) (.cst (.int 1000))))
    .nil)))))))))⟩
def f__law_word : ML.Fn := open ML in ⟨3, 5, (.cons (.asg (.v 3) (.cst (.str [97, 98, 99, 100, 101, 102, 103, 104, 105, 106, 107, 108, 109, 110, 111, 112, 113, 114, 115, 116, 117, 118, 119, 120, 121, 122])))
    (.cons (.asg (.v 4) (.bin .mul (.idx (.var 3) (.bin .mod (.bin .fdiv (.var 1) (.cst (.int 26))) (.cst (.int 26)))) (.bin .mod (.bin .mul (.var 2) (.var 1)) (.cst (.int 3)))))
    (.cons (.ret (.bin .add (.bin .add (.var 0) (.idx (.var 3) (.bin .mod (.bin .add (.var 1) (.bin .mul (.cst (.int 5)) (.var 2))) (.cst (.int 26))))) (.var 4)))
    .nil)))⟩
def f__law_kinds : ML.Fn := open ML in ⟨1, 13, (.cons (.asg (.v 1) (.call 11 (.cons (.var 0) .nil)))
    (.cons (.asg (.v 2) (.call 11 (.cons (.var 0) .nil)))
    (.cons (.asg (.v 3) (.lst (.comp (.call 10 (.cons (.cst (.str [107])) (.cons (.var 2) (.cons (.var 9) .nil)))) [9] (.v 9) (.rng (.bin .add (.cst (.int 1)) (.bin .mod (.var 1) (.cst (.int 3))))) .none)))
    (.cons (.asg (.v 4) (.lst (.disp .nil)))
    (.cons (.asg (.v 5) (.cst (.int 0)))
    (.cons (.frr (.v 6) (.e (.var 3))
    (.cons (.asg (.v 7) (.lst (.disp .nil)))
    (.cons (.asg (.v 8) (.call 11 (.cons (.var 0) .nil)))
    (.cons (.frr (.v 9) (.rng (.idxL (.disp (.cons (.cst (.int 2)) (.cons (.cst (.int 2)) (.cons (.cst (.int 3)) (.cons (.cst (.int 3)) (.cons (.cst (.int 1)) (.cons (.cst (.int 2)) .nil))))))) (.bin .mod (.var 8) (.cst (.int 6)))))
    (.cons (.asg (.v 10) (.lst (.disp .nil)))
    (.cons (.frr (.v 11) (.rng (.bin .mul (.idxL (.disp (.cons (.cst (.int 0)) (.cons (.cst (.int 1)) (.cons (.cst (.int 1)) (.cons (.cst (.int 2)) (.cons (.cst (.int 2)) (.cons (.cst (.int 3)) .nil))))))) (.bin .mod (.call 11 (.cons (.var 0) .nil)) (.cst (.int 6)))) (.blt .int (.cons (.cmp .gt (.var 9) (.cst (.int 0))) .nil))))
    (.cons (.asg (.v 12) (.call 11 (.cons (.var 0) .nil)))
    (.cons (.ex (.mth .append (.var 10) (.cons (.idxL (.add (.add (.disp (.cons (.var 6) (.cons (.var 6) .nil))) (.ofE (.var 3))) (.disp (.cons (.cst (.str [116, 114, 117, 116, 104])) .nil))) (.bin .mod (.var 12) (.bin .add (.blt .len (.cons (.var 3) .nil)) (.cst (.int 3))))) .nil)))
    .nil)))
    (.cons (.ex (.mth .append (.var 7) (.cons (.tup (.cons (.call 10 (.cons (.cst (.str [109])) (.cons (.var 2) (.cons (.var 5) .nil)))) (.cons (.blt .tup (.cons (.var 10) .nil)) .nil))) .nil)))
    (.cons (.asg (.v 5) (.bin .add (.var 5) (.cst (.int 1))))
    .nil)))))
    (.cons (.ex (.mth .append (.var 4) (.cons (.tup (.cons (.var 6) (.cons (.blt .tup (.cons (.var 7) .nil)) .nil))) .nil)))
    .nil)))))
    (.cons (.ret (.blt .tup (.cons (.var 4) .nil)))
    .nil)))))))⟩
def f__law_makers : ML.Fn := open ML in ⟨2, 4, (.cons (.frr (.tup (.cons (.v 2) (.cons (.v 3) .nil))) (.e (.var 0))
    (.cons (.iff (.cmp .eq (.var 2) (.var 1))
    (.cons (.ret (.var 3))
    .nil)
    .nil)
    .nil))
    (.cons (.ret (.tup (.cons (.tup (.cons (.cst (.str [121, 101, 115])) (.cons (.tup .nil) .nil))) (.cons (.tup (.cons (.cst (.str [110, 111])) (.cons (.tup .nil) .nil))) .nil))))
    .nil))⟩
def f__law_filled : ML.Fn := open ML in ⟨2, 5, (.cons (.iff (.cmp .eq (.idx (.var 0) (.cst (.int 0))) (.cst (.str [110, 97, 109, 101])))
    (.cons (.frr (.tup (.cons (.v 2) (.cons (.v 3) .nil))) (.e (.var 1))
    (.cons (.iff (.cmp .eq (.var 2) (.idx (.var 0) (.cst (.int 1))))
    (.cons (.ret (.var 3))
    .nil)
    .nil)
    .nil))
    (.cons (.ret (.var 0))
    .nil))
    .nil)
    (.cons (.iff (.or (.cmp .eq (.idx (.var 0) (.cst (.int 0))) (.cst (.str [109, 97, 100, 101]))) (.cmp .eq (.idx (.var 0) (.cst (.int 0))) (.cst (.str [99, 97, 108, 108]))))
    (.cons (.ret (.tup (.cons (.idx (.var 0) (.cst (.int 0))) (.cons (.idx (.var 0) (.cst (.int 1))) (.cons (.bl1 .tup (.comp (.call 12 (.cons (.var 4) (.cons (.var 1) .nil))) [4] (.v 4) (.e (.idx (.var 0) (.cst (.int 2)))) .none)) .nil)))))
    .nil)
    .nil)
    (.cons (.ret (.bin .add (.sl (.var 0) .none (.some (.cst (.int 1)))) (.bl1 .tup (.comp (.call 12 (.cons (.var 4) (.cons (.var 1) .nil))) [4] (.v 4) (.l (.sl (.ofE (.var 0)) (.some (.cst (.int 1))) .none)) .none))))
    .nil)))⟩
def f__law_same : ML.Fn := open ML in ⟨2, 4, (.cons (.iff (.isi (.var 1) [.tup])
    (.cons (.iff (.or (.not (.isi (.var 0) [.tup])) (.cmp .ne (.blt .len (.cons (.var 0) .nil)) (.blt .len (.cons (.var 1) .nil))))
    (.cons (.ret (.cst (.bl false)))
    .nil)
    .nil)
    (.cons (.ret (.bl1 .all (.comp (.call 13 (.cons (.var 2) (.cons (.var 3) .nil))) [2, 3] (.tup (.cons (.v 2) (.cons (.v 3) .nil))) (.zip (.ofE (.var 0)) (.ofE (.var 1))) .none)))
    .nil))
    .nil)
    (.cons (.iff (.isn false (.var 1))
    (.cons (.ret (.isn false (.var 0)))
    .nil)
    .nil)
    (.cons (.iff (.isi (.var 1) [.str])
    (.cons (.ret (.and (.isi (.var 0) [.str]) (.cmp .eq (.var 0) (.var 1))))
    .nil)
    .nil)
    (.cons (.ret (.and (.isi (.var 0) [.int]) (.and (.not (.isi (.var 0) [.bool])) (.cmp .eq (.var 0) (.var 1)))))
    .nil))))⟩
def f__law_open : ML.Fn := open ML in ⟨5, 12, (.cons (.asg (.v 5) (.call 11 (.cons (.var 0) .nil)))
    (.cons (.asg (.v 6) (.lst (.comp (.blt .str (.cons (.bin .add (.var 10) (.cst (.int 1))) .nil)) [10] (.v 10) (.rng (.blt .len (.cons (.var 4) .nil))) (.some (.cmp .eq (.idx (.var 4) (.var 10)) (.var 2))))))
    (.cons (.iff (.or (.cmp .eq (.bin .mod (.var 5) (.cst (.int 3))) (.cst (.int 0))) (.and (.cmp .eq (.var 3) (.cst (.int 0))) (.cmp .eq (.bin .mod (.var 5) (.cst (.int 2))) (.cst (.int 0)))))
    (.cons (.iff (.and (.cmpL true (.ofE (.var 6)) (.disp .nil)) (.cmp .gt (.bin .mod (.bin .fdiv (.var 5) (.cst (.int 6))) (.cst (.int 3))) (.cst (.int 0))))
    (.cons (.ret (.tup (.cons (.cst (.str [110, 97, 109, 101])) (.cons (.idx (.var 6) (.bin .mod (.bin .fdiv (.var 5) (.cst (.int 18))) (.blt .len (.cons (.var 6) .nil)))) .nil))))
    .nil)
    .nil)
    (.cons (.ex (.mth .append (.var 4) (.cons (.var 2) .nil)))
    (.cons (.ret (.tup (.cons (.cst (.str [110, 97, 109, 101])) (.cons (.blt .str (.cons (.blt .len (.cons (.var 4) .nil)) .nil)) .nil))))
    .nil)))
    .nil)
    (.cons (.asg (.v 7) (.call 15 (.cons (.var 1) (.cons (.var 2) .nil))))
    (.cons (.asg (.tup (.cons (.v 8) (.cons (.v 9) .nil))) (.idx (.var 7) (.bin .mod (.bin .fdiv (.var 5) (.cst (.int 6))) (.blt .len (.cons (.var 7) .nil)))))
    (.cons (.iff (.cmp .eq (.var 3) (.cst (.int 0)))
    (.cons (.asg (.tup (.cons (.v 8) (.cons (.v 9) .nil))) (.idx (.var 7) (.cst (.int 0))))
    .nil)
    .nil)
    (.cons (.ret (.tup (.cons (.cst (.str [109, 97, 100, 101])) (.cons (.var 8) (.cons (.bl1 .tup (.comp (.call 14 (.cons (.var 0) (.cons (.var 1) (.cons (.var 11) (.cons (.blt .max2 (.cons (.cst (.int 0)) (.cons (.bin .sub (.var 3) (.cst (.int 1))) .nil))) (.cons (.var 4) .nil)))))) [11] (.v 11) (.e (.var 9)) .none)) .nil)))))
    .nil)))))))⟩
def f__law_open_fills : ML.Fn := open ML in ⟨4, 7, (.cons (.asg (.v 4) (.bin .sub (.cst (.int 3)) (.bin .fdiv (.blt .len (.cons (.var 2) .nil)) (.cst (.int 3)))))
    (.cons (.ret (.bl1 .tup (.comp (.tup (.cons (.var 5) (.cons (.call 14 (.cons (.var 0) (.cons (.var 1) (.cons (.var 6) (.cons (.bin .mod (.call 11 (.cons (.var 0) .nil)) (.var 4)) (.cons (.var 3) .nil)))))) .nil))) [5, 6] (.tup (.cons (.v 5) (.cons (.v 6) .nil))) (.e (.var 2)) .none)))
    .nil))⟩
def f__law_asked_names : ML.Fn := open ML in ⟨2, 6, (.cons (.asg (.v 2) (.lst (.add (.comp (.idx (.var 4) (.cst (.int 0))) [4] (.v 4) (.e (.var 1)) .none) (.disp (.cons (.cst (.str [116, 114, 117, 116, 104])) .nil)))))
    (.cons (.asg (.v 3) (.bin .add (.cst (.int 1)) (.bin .mod (.call 11 (.cons (.var 0) .nil)) (.cst (.int 4)))))
    (.cons (.ret (.bl1 .tup (.comp (.tup (.cons (.idxL (.disp (.cons (.cst (.str [120])) (.cons (.cst (.str [121, 121])) (.cons (.cst (.str [122, 101, 116, 97])) (.cons (.cst (.str [98])) .nil))))) (.var 5)) (.cons (.idx (.var 2) (.bin .mod (.call 11 (.cons (.var 0) .nil)) (.blt .len (.cons (.var 2) .nil)))) .nil))) [5] (.v 5) (.rng (.var 3)) .none)))
    .nil)))⟩
def f__law_sided : ML.Fn := open ML in ⟨2, 3, (.cons (.iff (.cmp .eq (.idx (.var 0) (.cst (.int 0))) (.cst (.str [110, 97, 109, 101])))
    (.cons (.ret (.tup (.cons (.cst (.str [110, 97, 109, 101])) (.cons (.bin .add (.var 1) (.idx (.var 0) (.cst (.int 1)))) .nil))))
    .nil)
    .nil)
    (.cons (.ret (.tup (.cons (.cst (.str [109, 97, 100, 101])) (.cons (.idx (.var 0) (.cst (.int 1))) (.cons (.bl1 .tup (.comp (.call 16 (.cons (.var 2) (.cons (.var 1) .nil))) [2] (.v 2) (.e (.idx (.var 0) (.cst (.int 2)))) .none)) .nil)))))
    .nil))⟩
def f__law_now : ML.Fn := open ML in ⟨2, 2, (.cons (.whl (.and (.cmp .eq (.idx (.var 0) (.cst (.int 0))) (.cst (.str [110, 97, 109, 101]))) (.cmp .isin (.idx (.var 0) (.cst (.int 1))) (.var 1)))
    (.cons (.asg (.v 0) (.idx (.var 1) (.idx (.var 0) (.cst (.int 1)))))
    .nil))
    (.cons (.ret (.var 0))
    .nil))⟩
def f__law_within : ML.Fn := open ML in ⟨3, 4, (.cons (.asg (.v 1) (.call 18 (.cons (.var 1) (.cons (.var 2) .nil))))
    (.cons (.iff (.cmp .eq (.idx (.var 1) (.cst (.int 0))) (.cst (.str [110, 97, 109, 101])))
    (.cons (.ret (.cmp .eq (.idx (.var 1) (.cst (.int 1))) (.var 0)))
    .nil)
    .nil)
    (.cons (.ret (.inL false (.cst (.bl true)) (.comp (.call 17 (.cons (.var 0) (.cons (.var 3) (.cons (.var 2) .nil)))) [3] (.v 3) (.e (.idx (.var 1) (.cst (.int 2)))) .none)))
    .nil)))⟩
def f__law_alike : ML.Fn := open ML in ⟨3, 7, (.cons (.asg (.tup (.cons (.v 0) (.cons (.v 1) .nil))) (.tup (.cons (.call 18 (.cons (.var 0) (.cons (.var 2) .nil))) (.cons (.call 18 (.cons (.var 1) (.cons (.var 2) .nil))) .nil))))
    (.cons (.iff (.cmp .eq (.var 0) (.var 1))
    (.cons (.ret (.cst (.bl true)))
    .nil)
    .nil)
    (.cons (.iff (.or (.cmp .eq (.idx (.var 0) (.cst (.int 0))) (.cst (.str [110, 97, 109, 101]))) (.cmp .eq (.idx (.var 1) (.cst (.int 0))) (.cst (.str [110, 97, 109, 101]))))
    (.cons (.asg (.tup (.cons (.v 3) (.cons (.v 4) .nil))) (.tup (.cons (.idx (.var 0) (.cst (.int 1))) (.cons (.var 1) .nil))))
    (.cons (.iff (.cmp .ne (.idx (.var 0) (.cst (.int 0))) (.cst (.str [110, 97, 109, 101])))
    (.cons (.asg (.tup (.cons (.v 3) (.cons (.v 4) .nil))) (.tup (.cons (.idx (.var 1) (.cst (.int 1))) (.cons (.var 0) .nil))))
    .nil)
    .nil)
    (.cons (.iff (.call 17 (.cons (.var 3) (.cons (.var 4) (.cons (.var 2) .nil))))
    (.cons (.ret (.cst (.bl false)))
    .nil)
    .nil)
    (.cons (.asg (.idx (.var 2) (.var 3)) (.var 4))
    (.cons (.ret (.cst (.bl true)))
    .nil)))))
    .nil)
    (.cons (.iff (.cmp .ne (.idx (.var 0) (.cst (.int 1))) (.idx (.var 1) (.cst (.int 1))))
    (.cons (.ret (.cst (.bl false)))
    .nil)
    .nil)
    (.cons (.frr (.tup (.cons (.v 5) (.cons (.v 6) .nil))) (.zip (.ofE (.idx (.var 0) (.cst (.int 2)))) (.ofE (.idx (.var 1) (.cst (.int 2)))))
    (.cons (.iff (.not (.call 19 (.cons (.var 5) (.cons (.var 6) (.cons (.var 2) .nil)))))
    (.cons (.ret (.cst (.bl false)))
    .nil)
    .nil)
    .nil))
    (.cons (.ret (.cst (.bl true)))
    .nil))))))⟩
def f__law_can : ML.Fn := open ML in ⟨2, 5, (.cons (.asg (.v 2) .dict0)
    (.cons (.frr (.tup (.cons (.v 3) (.cons (.v 4) .nil))) (.zip (.ofE (.idx (.var 0) (.cst (.int 0)))) (.ofE (.idx (.var 1) (.cst (.int 0)))))
    (.cons (.iff (.not (.call 19 (.cons (.call 16 (.cons (.idx (.var 3) (.cst (.int 1))) (.cons (.cst (.str [97])) .nil))) (.cons (.call 16 (.cons (.idx (.var 4) (.cst (.int 1))) (.cons (.cst (.str [98])) .nil))) (.cons (.var 2) .nil)))))
    (.cons (.ret (.cst (.bl false)))
    .nil)
    .nil)
    .nil))
    (.cons (.ret (.cst (.bl true)))
    .nil)))⟩
def f__law_is_new : ML.Fn := open ML in ⟨1, 4, (.cons (.iff (.or (.not (.isi (.var 0) [.tup])) (.or (.cmp .notin (.blt .len (.cons (.var 0) .nil)) (.tup (.cons (.cst (.int 2)) (.cons (.cst (.int 3)) .nil)))) (.not (.isi (.idx (.var 0) (.cst (.int 0))) [.str]))))
    (.cons (.ret (.cst (.bl false)))
    .nil)
    .nil)
    (.cons (.iff (.and (.cmp .eq (.idx (.var 0) (.cst (.int 0))) (.cst (.str [110, 97, 109, 101]))) (.and (.cmp .eq (.blt .len (.cons (.var 0) .nil)) (.cst (.int 2))) (.isi (.idx (.var 0) (.cst (.int 1))) [.str])))
    (.cons (.asg (.v 1) (.lst (.comp (.var 2) [2] (.v 2) (.e (.idx (.var 0) (.cst (.int 1)))) (.some (.cmp .notin (.var 2) (.cst (.str [48, 49, 50, 51, 52, 53, 54, 55, 56, 57])))))))
    (.cons (.ret (.and (.cmpL false (.ofE (.var 1)) (.disp .nil)) (.and (.chain .le .le (.cst (.int 1)) (.blt .len (.cons (.idx (.var 0) (.cst (.int 1))) .nil)) (.cst (.int 3))) (.cmp .ne (.idx (.idx (.var 0) (.cst (.int 1))) (.cst (.int 0))) (.cst (.str [48]))))))
    .nil))
    .nil)
    (.cons (.iff (.or (.cmp .ne (.idx (.var 0) (.cst (.int 0))) (.cst (.str [109, 97, 100, 101]))) (.or (.cmp .ne (.blt .len (.cons (.var 0) .nil)) (.cst (.int 3))) (.or (.not (.isi (.idx (.var 0) (.cst (.int 1))) [.str])) (.not (.isi (.idx (.var 0) (.cst (.int 2))) [.tup])))))
    (.cons (.ret (.cst (.bl false)))
    .nil)
    .nil)
    (.cons (.ret (.bl1 .all (.comp (.call 20 (.cons (.var 3) .nil)) [3] (.v 3) (.e (.idx (.var 0) (.cst (.int 2)))) .none)))
    .nil))))⟩
def f__law_is_half : ML.Fn := open ML in ⟨2, 4, (.cons (.iff (.or (.not (.isi (.var 0) [.tup])) (.cmp .ne (.blt .len (.cons (.var 0) .nil)) (.var 1)))
    (.cons (.ret (.cst (.bl false)))
    .nil)
    .nil)
    (.cons (.frr (.tup (.cons (.v 2) (.cons (.v 3) .nil))) (.enum (.ofE (.var 0)))
    (.cons (.iff (.or (.not (.isi (.var 3) [.tup])) (.or (.cmp .ne (.blt .len (.cons (.var 3) .nil)) (.cst (.int 2))) (.not (.call 13 (.cons (.idx (.var 3) (.cst (.int 0))) (.cons (.blt .str (.cons (.bin .add (.var 2) (.cst (.int 1))) .nil)) .nil))))))
    (.cons (.ret (.cst (.bl false)))
    .nil)
    .nil)
    (.cons (.iff (.not (.call 20 (.cons (.idx (.var 3) (.cst (.int 1))) .nil)))
    (.cons (.ret (.cst (.bl false)))
    .nil)
    .nil)
    .nil)))
    (.cons (.ret (.cst (.bl true)))
    .nil)))⟩
def f__law_right : ML.Fn := open ML in ⟨4, 6, (.cons (.iff (.not (.call 22 (.cons (.var 1) (.cons (.var 2) .nil))))
    (.cons (.ret (.isn false (.var 0)))
    .nil)
    .nil)
    (.cons (.iff (.or (.not (.isi (.var 0) [.tup])) (.cmp .ne (.blt .len (.cons (.var 0) .nil)) (.cst (.int 2))))
    (.cons (.ret (.cst (.bl false)))
    .nil)
    .nil)
    (.cons (.iff (.or (.not (.call 21 (.cons (.idx (.var 0) (.cst (.int 0))) (.cons (.idx (.var 3) (.cst (.int 0))) .nil)))) (.not (.call 21 (.cons (.idx (.var 0) (.cst (.int 1))) (.cons (.idx (.var 3) (.cst (.int 1))) .nil)))))
    (.cons (.ret (.cst (.bl false)))
    .nil)
    .nil)
    (.cons (.frr (.tup (.cons (.v 4) (.cons (.v 5) .nil))) (.zip (.ofE (.idx (.var 1) (.cst (.int 0)))) (.ofE (.idx (.var 2) (.cst (.int 0)))))
    (.cons (.iff (.not (.call 13 (.cons (.call 12 (.cons (.idx (.var 4) (.cst (.int 1))) (.cons (.idx (.var 0) (.cst (.int 0))) .nil))) (.cons (.call 12 (.cons (.idx (.var 5) (.cst (.int 1))) (.cons (.idx (.var 0) (.cst (.int 1))) .nil))) .nil))))
    (.cons (.ret (.cst (.bl false)))
    .nil)
    .nil)
    .nil))
    (.cons (.ret (.cst (.bl true)))
    .nil)))))⟩
def f__law_second : ML.Fn := open ML in ⟨5, 12, (.cons (.asg (.v 5) (.lst (.disp .nil)))
    (.cons (.asg (.v 6) .dict0)
    (.cons (.asg (.v 7) (.lst (.disp .nil)))
    (.cons (.frr (.tup (.cons (.tup (.cons (.v 8) (.cons (.v 9) .nil))) (.cons (.tup (.cons (.v 10) (.cons (.v 11) .nil))) .nil))) (.zip (.ofE (.var 2)) (.ofE (.var 3)))
    (.cons (.ex (.mth .append (.var 7) (.cons (.tup (.cons (.var 8) (.cons (.call 23 (.cons (.var 0) (.cons (.var 1) (.cons (.var 11) (.cons (.var 9) (.cons (.var 5) (.cons (.var 6) .nil))))))) .nil))) .nil)))
    .nil))
    (.cons (.ex (.mthL .extend (.var 4) (.ofE (.var 5))))
    (.cons (.ret (.blt .tup (.cons (.var 7) .nil)))
    .nil))))))⟩
def f__law_varied : ML.Fn := open ML in ⟨6, 11, (.cons (.asg (.v 6) (.call 11 (.cons (.var 0) .nil)))
    (.cons (.iff (.cmp .eq (.bin .mod (.var 6) (.cst (.int 8))) (.cst (.int 0)))
    (.cons (.ret (.call 14 (.cons (.var 0) (.cons (.var 1) (.cons (.var 3) (.cons (.cst (.int 1)) (.cons (.var 4) .nil)))))))
    .nil)
    .nil)
    (.cons (.iff (.cmp .eq (.idx (.var 2) (.cst (.int 0))) (.cst (.str [110, 97, 109, 101])))
    (.cons (.iff (.cmp .notin (.idx (.var 2) (.cst (.int 1))) (.var 5))
    (.cons (.ex (.mth .append (.var 4) (.cons (.var 3) .nil)))
    (.cons (.asg (.idx (.var 5) (.idx (.var 2) (.cst (.int 1)))) (.blt .str (.cons (.blt .len (.cons (.var 4) .nil)) .nil)))
    .nil))
    .nil)
    (.cons (.ret (.tup (.cons (.cst (.str [110, 97, 109, 101])) (.cons (.idx (.var 5) (.idx (.var 2) (.cst (.int 1)))) .nil))))
    .nil))
    .nil)
    (.cons (.asg (.v 7) (.idxL (.comp (.idx (.var 8) (.cst (.int 1))) [8] (.v 8) (.e (.call 15 (.cons (.var 1) (.cons (.var 3) .nil)))) (.some (.cmp .eq (.idx (.var 8) (.cst (.int 0))) (.idx (.var 2) (.cst (.int 1)))))) (.cst (.int 0))))
    (.cons (.ret (.tup (.cons (.cst (.str [109, 97, 100, 101])) (.cons (.idx (.var 2) (.cst (.int 1))) (.cons (.bl1 .tup (.comp (.call 23 (.cons (.var 0) (.cons (.var 1) (.cons (.var 9) (.cons (.var 10) (.cons (.var 4) (.cons (.var 5) .nil))))))) [9, 10] (.tup (.cons (.v 9) (.cons (.v 10) .nil))) (.zip (.ofE (.idx (.var 2) (.cst (.int 2)))) (.ofE (.var 7))) .none)) .nil)))))
    .nil)))))⟩
def f_law : ML.Fn := open ML in ⟨1, 10, (.cons (.asg (.v 1) (.call 30 (.cons (.var 0) .nil)))
    (.cons (.asg (.v 2) (.call 29 (.cons (.var 1) .nil)))
    (.cons (.asg (.v 3) (.call 28 (.cons (.var 1) (.cons (.var 2) .nil))))
    (.cons (.frr (.v 4) (.rng (.cst (.int 3)))
    (.cons (.asg (.v 5) (.lst (.disp .nil)))
    (.cons (.asg (.v 6) (.tup (.cons (.call 26 (.cons (.var 1) (.cons (.var 2) (.cons (.var 3) (.cons (.var 5) .nil))))) (.cons (.tup (.cons (.cst (.str [109, 97, 100, 101])) (.cons (.cst (.str [121, 101, 115])) (.cons (.tup .nil) .nil)))) (.cons (.tup (.cons (.cst (.str [115, 107, 105, 112])) .nil)) (.cons (.cst (.int 0)) (.cons (.tup .nil) .nil)))))))
    (.cons (.asg (.v 7) (.lst (.disp .nil)))
    (.cons (.iff (.cmp .eq (.bin .mod (.call 11 (.cons (.var 1) .nil)) (.cst (.int 3))) (.cst (.int 0)))
    (.cons (.asg (.v 8) (.call 26 (.cons (.var 1) (.cons (.var 2) (.cons (.var 3) (.cons (.var 7) .nil))))))
    .nil)
    (.cons (.asg (.v 8) (.call 27 (.cons (.var 1) (.cons (.var 2) (.cons (.var 3) (.cons (.idx (.var 6) (.cst (.int 0))) (.cons (.var 7) .nil)))))))
    .nil))
    (.cons (.asg (.v 9) (.tup (.cons (.var 8) (.cons (.tup (.cons (.cst (.str [109, 97, 100, 101])) (.cons (.cst (.str [110, 111])) (.cons (.tup .nil) .nil)))) (.cons (.tup (.cons (.cst (.str [115, 107, 105, 112])) .nil)) (.cons (.cst (.int 1)) (.cons (.tup .nil) .nil)))))))
    (.cons (.iff (.not (.call 24 (.cons (.call 25 (.cons (.var 6) (.cons (.var 9) .nil))) (.cons (.var 6) (.cons (.var 9) (.cons (.tup (.cons (.blt .len (.cons (.var 5) .nil)) (.cons (.blt .len (.cons (.var 7) .nil)) .nil))) .nil))))))
    (.cons (.ret (.cst (.bl false)))
    .nil)
    .nil)
    (.cons (.iff (.not (.call 24 (.cons (.call 25 (.cons (.var 9) (.cons (.var 6) .nil))) (.cons (.var 9) (.cons (.var 6) (.cons (.tup (.cons (.blt .len (.cons (.var 7) .nil)) (.cons (.blt .len (.cons (.var 5) .nil)) .nil))) .nil))))))
    (.cons (.ret (.cst (.bl false)))
    .nil)
    .nil)
    (.cons (.iff (.or (.isn false (.call 25 (.cons (.var 6) (.cons (.var 6) .nil)))) (.not (.call 24 (.cons (.call 25 (.cons (.var 6) (.cons (.var 6) .nil))) (.cons (.var 6) (.cons (.var 6) (.cons (.tup (.cons (.blt .len (.cons (.var 5) .nil)) (.cons (.blt .len (.cons (.var 5) .nil)) .nil))) .nil)))))))
    (.cons (.ret (.cst (.bl false)))
    .nil)
    .nil)
    .nil)))))))))
    (.cons (.ret (.cst (.bl true)))
    .nil)))))⟩
def fnT : Nat → Option ML.Fn := fun
  | 0 => some f_parts_of
  | 1 => some f_add_nodes
  | 2 => some f_nodes_of
  | 3 => some f_names_of
  | 9 => some f_own_names
  | 4 => some f_side_of
  | 6 => some f_known_as
  | 5 => some f_stands_in
  | 7 => some f_joined
  | 8 => some f_resolved
  | 25 => some f_common
  | 30 => some f__law_deck
  | 11 => some f__law_next
  | 10 => some f__law_word
  | 29 => some f__law_kinds
  | 15 => some f__law_makers
  | 12 => some f__law_filled
  | 13 => some f__law_same
  | 14 => some f__law_open
  | 26 => some f__law_open_fills
  | 28 => some f__law_asked_names
  | 16 => some f__law_sided
  | 18 => some f__law_now
  | 17 => some f__law_within
  | 19 => some f__law_alike
  | 22 => some f__law_can
  | 20 => some f__law_is_new
  | 21 => some f__law_is_half
  | 24 => some f__law_right
  | 27 => some f__law_second
  | 23 => some f__law_varied
  | 31 => some f_law
  | _ => none
def mtT : Nat → Nat → Option Nat := fun c m => match c, m with
  | _, _ => none
def iniT : Nat → Option Nat := fun
  | _ => none
def subT : Nat → Nat → Bool := fun a b => match a, b with
  | _, _ => false
def xfT : Nat → List Nat := fun
  | _ => []
def TT : ML.Tab := ⟨fnT, mtT, iniT, subT, xfT⟩

def t_parts_of : MS.Tr := ⟨"parts_of", "parts_of", "parts_of", defArgs (top 1), defBody (top 1), defScope (top 1), 0, ["saying"], ["saying"], f_parts_of⟩
def t_add_nodes : MS.Tr := ⟨"add_nodes", "add_nodes", "add_nodes", defArgs (top 2), defBody (top 2), defScope (top 2), 1, ["found", "path", "saying"], ["found", "path", "saying", "number", "part"], f_add_nodes⟩
def t_nodes_of : MS.Tr := ⟨"nodes_of", "nodes_of", "nodes_of", defArgs (top 3), defBody (top 3), defScope (top 3), 2, ["saying"], ["saying", "found"], f_nodes_of⟩
def t_names_of : MS.Tr := ⟨"names_of", "names_of", "names_of", defArgs (top 4), defBody (top 4), defScope (top 4), 3, ["saying"], ["saying", "found", "path", "node"], f_names_of⟩
def t_own_names : MS.Tr := ⟨"own_names", "own_names", "own_names", defArgs (top 6), defBody (top 6), defScope (top 6), 9, ["answer"], ["answer", "found", "thing", "fill", "name"], f_own_names⟩
def t_side_of : MS.Tr := ⟨"side_of", "side_of", "side_of", defArgs (top 7), defBody (top 7), defScope (top 7), 4, ["thing", "side"], ["thing", "side", "part"], f_side_of⟩
def t_known_as : MS.Tr := ⟨"known_as", "known_as", "known_as", defArgs (top 8), defBody (top 8), defScope (top 8), 6, ["thing", "bound"], ["thing", "bound"], f_known_as⟩
def t_stands_in : MS.Tr := ⟨"stands_in", "stands_in", "stands_in", defArgs (top 9), defBody (top 9), defScope (top 9), 5, ["name", "thing", "bound"], ["name", "thing", "bound", "here", "part"], f_stands_in⟩
def t_joined : MS.Tr := ⟨"joined", "joined", "joined", defArgs (top 10), defBody (top 10), defScope (top 10), 7, ["one", "other", "bound"], ["one", "other", "bound", "here", "there", "part", "place"], f_joined⟩
def t_resolved : MS.Tr := ⟨"resolved", "resolved", "resolved", defArgs (top 11), defBody (top 11), defScope (top 11), 8, ["thing", "bound", "names"], ["thing", "bound", "names", "here", "part"], f_resolved⟩
def t_common : MS.Tr := ⟨"common", "common", "common", defArgs (top 12), defBody (top 12), defScope (top 12), 25, ["one", "other"], ["one", "other", "bound", "own", "given", "names", "halves", "answer", "side", "names_here", "fill", "name"], f_common⟩
def t__law_deck : MS.Tr := ⟨"_law_deck", "_law_deck", "_law_deck", defArgs (top 14), defBody (top 14), defScope (top 14), 30, ["_law_script"], ["_law_script", "_law_cells", "_law_cell"], f__law_deck⟩
def t__law_next : MS.Tr := ⟨"_law_next", "_law_next", "_law_next", defArgs (top 15), defBody (top 15), defScope (top 15), 11, ["_law_deck_here"], ["_law_deck_here", "_law_cells", "_law_many", "_law_rest", "_law_at", "_law_figures", "_law_primes", "_law_other", "_law_mixed"], f__law_next⟩
def t__law_word : MS.Tr := ⟨"_law_word", "_law_word", "_law_word", defArgs (top 16), defBody (top 16), defScope (top 16), 10, ["_law_sort", "_law_base", "_law_number"], ["_law_sort", "_law_base", "_law_number", "_law_letters", "_law_more"], f__law_word⟩
def t__law_kinds : MS.Tr := ⟨"_law_kinds", "_law_kinds", "_law_kinds", defArgs (top 17), defBody (top 17), defScope (top 17), 29, ["_law_deck_here"], ["_law_deck_here", "_law_number", "_law_base", "_law_kinds_here", "_law_found", "_law_many", "_law_kind", "_law_makers_here", "_law_draw", "_law_at", "_law_parts", "_law_part", "_law_other"], f__law_kinds⟩
def t__law_makers : MS.Tr := ⟨"_law_makers", "_law_makers", "_law_makers", defArgs (top 18), defBody (top 18), defScope (top 18), 15, ["_law_kinds_here", "_law_kind"], ["_law_kinds_here", "_law_kind", "_law_name", "_law_makers_here"], f__law_makers⟩
def t__law_filled : MS.Tr := ⟨"_law_filled", "_law_filled", "_law_filled", defArgs (top 19), defBody (top 19), defScope (top 19), 12, ["_law_saying", "_law_fills"], ["_law_saying", "_law_fills", "_law_name", "_law_thing", "_law_part"], f__law_filled⟩
def t__law_same : MS.Tr := ⟨"_law_same", "_law_same", "_law_same", defArgs (top 20), defBody (top 20), defScope (top 20), 13, ["_law_found", "_law_due"], ["_law_found", "_law_due", "_law_one", "_law_other"], f__law_same⟩
def t__law_open : MS.Tr := ⟨"_law_open", "_law_open", "_law_open", defArgs (top 21), defBody (top 21), defScope (top 21), 14, ["_law_deck_here", "_law_kinds_here", "_law_kind", "_law_far", "_law_known"], ["_law_deck_here", "_law_kinds_here", "_law_kind", "_law_far", "_law_known", "_law_number", "_law_old", "_law_makers_here", "_law_maker", "_law_parts", "_law_at", "_law_part"], f__law_open⟩
def t__law_open_fills : MS.Tr := ⟨"_law_open_fills", "_law_open_fills", "_law_open_fills", defArgs (top 22), defBody (top 22), defScope (top 22), 26, ["_law_deck_here", "_law_kinds_here", "_law_names", "_law_known"], ["_law_deck_here", "_law_kinds_here", "_law_names", "_law_known", "_law_far", "_law_name", "_law_kind"], f__law_open_fills⟩
def t__law_asked_names : MS.Tr := ⟨"_law_asked_names", "_law_asked_names", "_law_asked_names", defArgs (top 23), defBody (top 23), defScope (top 23), 28, ["_law_deck_here", "_law_kinds_here"], ["_law_deck_here", "_law_kinds_here", "_law_some", "_law_many", "_law_row", "_law_at"], f__law_asked_names⟩
def t__law_sided : MS.Tr := ⟨"_law_sided", "_law_sided", "_law_sided", defArgs (top 24), defBody (top 24), defScope (top 24), 16, ["_law_thing", "_law_side"], ["_law_thing", "_law_side", "_law_part"], f__law_sided⟩
def t__law_now : MS.Tr := ⟨"_law_now", "_law_now", "_law_now", defArgs (top 25), defBody (top 25), defScope (top 25), 18, ["_law_thing", "_law_bound_to"], ["_law_thing", "_law_bound_to"], f__law_now⟩
def t__law_within : MS.Tr := ⟨"_law_within", "_law_within", "_law_within", defArgs (top 26), defBody (top 26), defScope (top 26), 17, ["_law_name", "_law_thing", "_law_bound_to"], ["_law_name", "_law_thing", "_law_bound_to", "_law_part"], f__law_within⟩
def t__law_alike : MS.Tr := ⟨"_law_alike", "_law_alike", "_law_alike", defArgs (top 27), defBody (top 27), defScope (top 27), 19, ["_law_one", "_law_other", "_law_bound_to"], ["_law_one", "_law_other", "_law_bound_to", "_law_name", "_law_thing", "_law_part", "_law_own"], f__law_alike⟩
def t__law_can : MS.Tr := ⟨"_law_can", "_law_can", "_law_can", defArgs (top 28), defBody (top 28), defScope (top 28), 22, ["_law_one", "_law_other"], ["_law_one", "_law_other", "_law_bound_to", "_law_own", "_law_given"], f__law_can⟩
def t__law_is_new : MS.Tr := ⟨"_law_is_new", "_law_is_new", "_law_is_new", defArgs (top 29), defBody (top 29), defScope (top 29), 20, ["_law_thing"], ["_law_thing", "_law_figures", "_law_sign", "_law_part"], f__law_is_new⟩
def t__law_is_half : MS.Tr := ⟨"_law_is_half", "_law_is_half", "_law_is_half", defArgs (top 30), defBody (top 30), defScope (top 30), 21, ["_law_half", "_law_many"], ["_law_half", "_law_many", "_law_at", "_law_pair"], f__law_is_half⟩
def t__law_right : MS.Tr := ⟨"_law_right", "_law_right", "_law_right", defArgs (top 31), defBody (top 31), defScope (top 31), 24, ["_law_found", "_law_one", "_law_other", "_law_many"], ["_law_found", "_law_one", "_law_other", "_law_many", "_law_own", "_law_given"], f__law_right⟩
def t__law_second : MS.Tr := ⟨"_law_second", "_law_second", "_law_second", defArgs (top 32), defBody (top 32), defScope (top 32), 27, ["_law_deck_here", "_law_kinds_here", "_law_names", "_law_fills", "_law_known"], ["_law_deck_here", "_law_kinds_here", "_law_names", "_law_fills", "_law_known", "_law_own", "_law_by", "_law_found", "_law_name", "_law_kind", "_law_name_there", "_law_thing"], f__law_second⟩
def t__law_varied : MS.Tr := ⟨"_law_varied", "_law_varied", "_law_varied", defArgs (top 33), defBody (top 33), defScope (top 33), 23, ["_law_deck_here", "_law_kinds_here", "_law_thing", "_law_kind", "_law_own", "_law_by"], ["_law_deck_here", "_law_kinds_here", "_law_thing", "_law_kind", "_law_own", "_law_by", "_law_number", "_law_parts", "_law_row", "_law_p", "_law_k"], f__law_varied⟩
def t_law : MS.Tr := ⟨"law", "law", "law", defArgs (top 34), defBody (top 34), defScope (top 34), 31, ["_law_script"], ["_law_script", "_law_deck_here", "_law_kinds_here", "_law_names", "_law_k", "_law_known", "_law_one", "_law_more", "_law_fills", "_law_other"], f_law⟩
def fr : List Str := ["len", "all", "any", "sum", "tuple", "range", "zip", "enumerate", "isinstance", "str", "int", "bool", "abs", "max", "min"]
def trs : List MS.Tr := [t_parts_of, t_add_nodes, t_nodes_of, t_names_of, t_own_names, t_side_of, t_known_as, t_stands_in, t_joined, t_resolved, t_common, t__law_deck, t__law_next, t__law_word, t__law_kinds, t__law_makers, t__law_filled, t__law_same, t__law_open, t__law_open_fills, t__law_asked_names, t__law_sided, t__law_now, t__law_within, t__law_alike, t__law_can, t__law_is_new, t__law_is_half, t__law_right, t__law_second, t__law_varied, t_law]
def fns : List (Str × (Nat × Nat)) := trs.map fun t => (t.x, (t.f, t.ps.length))
theorem g_parts_of : t_parts_of.Good TT fr fns := ⟨by kernel_rfl, by kernel_rfl, rfl, rfl, by kernel_rfl⟩
theorem g_add_nodes : t_add_nodes.Good TT fr fns := ⟨by kernel_rfl, by kernel_rfl, rfl, rfl, by kernel_rfl⟩
theorem g_nodes_of : t_nodes_of.Good TT fr fns := ⟨by kernel_rfl, by kernel_rfl, rfl, rfl, by kernel_rfl⟩
theorem g_names_of : t_names_of.Good TT fr fns := ⟨by kernel_rfl, by kernel_rfl, rfl, rfl, by kernel_rfl⟩
theorem g_own_names : t_own_names.Good TT fr fns := ⟨by kernel_rfl, by kernel_rfl, rfl, rfl, by kernel_rfl⟩
theorem g_side_of : t_side_of.Good TT fr fns := ⟨by kernel_rfl, by kernel_rfl, rfl, rfl, by kernel_rfl⟩
theorem g_known_as : t_known_as.Good TT fr fns := ⟨by kernel_rfl, by kernel_rfl, rfl, rfl, by kernel_rfl⟩
theorem g_stands_in : t_stands_in.Good TT fr fns := ⟨by kernel_rfl, by kernel_rfl, rfl, rfl, by kernel_rfl⟩
theorem g_joined : t_joined.Good TT fr fns := ⟨by kernel_rfl, by kernel_rfl, rfl, rfl, by kernel_rfl⟩
theorem g_resolved : t_resolved.Good TT fr fns := ⟨by kernel_rfl, by kernel_rfl, rfl, rfl, by kernel_rfl⟩
theorem g_common : t_common.Good TT fr fns := ⟨by kernel_rfl, by kernel_rfl, rfl, rfl, by kernel_rfl⟩
theorem g__law_deck : t__law_deck.Good TT fr fns := ⟨by kernel_rfl, by kernel_rfl, rfl, rfl, by kernel_rfl⟩
theorem g__law_next : t__law_next.Good TT fr fns := ⟨by kernel_rfl, by kernel_rfl, rfl, rfl, by kernel_rfl⟩
theorem g__law_word : t__law_word.Good TT fr fns := ⟨by kernel_rfl, by kernel_rfl, rfl, rfl, by kernel_rfl⟩
theorem g__law_kinds : t__law_kinds.Good TT fr fns := ⟨by kernel_rfl, by kernel_rfl, rfl, rfl, by kernel_rfl⟩
theorem g__law_makers : t__law_makers.Good TT fr fns := ⟨by kernel_rfl, by kernel_rfl, rfl, rfl, by kernel_rfl⟩
theorem g__law_filled : t__law_filled.Good TT fr fns := ⟨by kernel_rfl, by kernel_rfl, rfl, rfl, by kernel_rfl⟩
theorem g__law_same : t__law_same.Good TT fr fns := ⟨by kernel_rfl, by kernel_rfl, rfl, rfl, by kernel_rfl⟩
theorem g__law_open : t__law_open.Good TT fr fns := ⟨by kernel_rfl, by kernel_rfl, rfl, rfl, by kernel_rfl⟩
theorem g__law_open_fills : t__law_open_fills.Good TT fr fns := ⟨by kernel_rfl, by kernel_rfl, rfl, rfl, by kernel_rfl⟩
theorem g__law_asked_names : t__law_asked_names.Good TT fr fns := ⟨by kernel_rfl, by kernel_rfl, rfl, rfl, by kernel_rfl⟩
theorem g__law_sided : t__law_sided.Good TT fr fns := ⟨by kernel_rfl, by kernel_rfl, rfl, rfl, by kernel_rfl⟩
theorem g__law_now : t__law_now.Good TT fr fns := ⟨by kernel_rfl, by kernel_rfl, rfl, rfl, by kernel_rfl⟩
theorem g__law_within : t__law_within.Good TT fr fns := ⟨by kernel_rfl, by kernel_rfl, rfl, rfl, by kernel_rfl⟩
theorem g__law_alike : t__law_alike.Good TT fr fns := ⟨by kernel_rfl, by kernel_rfl, rfl, rfl, by kernel_rfl⟩
theorem g__law_can : t__law_can.Good TT fr fns := ⟨by kernel_rfl, by kernel_rfl, rfl, rfl, by kernel_rfl⟩
theorem g__law_is_new : t__law_is_new.Good TT fr fns := ⟨by kernel_rfl, by kernel_rfl, rfl, rfl, by kernel_rfl⟩
theorem g__law_is_half : t__law_is_half.Good TT fr fns := ⟨by kernel_rfl, by kernel_rfl, rfl, rfl, by kernel_rfl⟩
theorem g__law_right : t__law_right.Good TT fr fns := ⟨by kernel_rfl, by kernel_rfl, rfl, rfl, by kernel_rfl⟩
theorem g__law_second : t__law_second.Good TT fr fns := ⟨by kernel_rfl, by kernel_rfl, rfl, rfl, by kernel_rfl⟩
theorem g__law_varied : t__law_varied.Good TT fr fns := ⟨by kernel_rfl, by kernel_rfl, rfl, rfl, by kernel_rfl⟩
theorem g_law : t_law.Good TT fr fns := ⟨by kernel_rfl, by kernel_rfl, rfl, rfl, by kernel_rfl⟩
def loose0 : List PySem.Str := ["parts_of", "add_nodes", "nodes_of", "names_of", "own_names", "side_of", "known_as", "stands_in", "joined", "resolved", "common", "_law_deck", "_law_next", "_law_word", "_law_kinds", "_law_makers", "_law_filled", "_law_same", "_law_open", "_law_open_fills", "_law_asked_names", "_law_sided", "_law_now", "_law_within", "_law_alike", "_law_can", "_law_is_new", "_law_is_half", "_law_right", "_law_second"]
def loose1 : List PySem.Str := ["_law_varied"]
def loose : List PySem.Str := loose0 ++ loose1
theorem b_parts_of : t_parts_of.Bind := fun _ _ _ _ _ _ us hl => match us, hl with | [_], _ => rfl
theorem b_add_nodes : t_add_nodes.Bind := fun _ _ _ _ _ _ us hl => match us, hl with | [_, _, _], _ => rfl
theorem b_nodes_of : t_nodes_of.Bind := fun _ _ _ _ _ _ us hl => match us, hl with | [_], _ => rfl
theorem b_names_of : t_names_of.Bind := fun _ _ _ _ _ _ us hl => match us, hl with | [_], _ => rfl
theorem b_own_names : t_own_names.Bind := fun _ _ _ _ _ _ us hl => match us, hl with | [_], _ => rfl
theorem b_side_of : t_side_of.Bind := fun _ _ _ _ _ _ us hl => match us, hl with | [_, _], _ => rfl
theorem b_known_as : t_known_as.Bind := fun _ _ _ _ _ _ us hl => match us, hl with | [_, _], _ => rfl
theorem b_stands_in : t_stands_in.Bind := fun _ _ _ _ _ _ us hl => match us, hl with | [_, _, _], _ => rfl
theorem b_joined : t_joined.Bind := fun _ _ _ _ _ _ us hl => match us, hl with | [_, _, _], _ => rfl
theorem b_resolved : t_resolved.Bind := fun _ _ _ _ _ _ us hl => match us, hl with | [_, _, _], _ => rfl
theorem b_common : t_common.Bind := fun _ _ _ _ _ _ us hl => match us, hl with | [_, _], _ => rfl
theorem b__law_deck : t__law_deck.Bind := fun _ _ _ _ _ _ us hl => match us, hl with | [_], _ => rfl
theorem b__law_next : t__law_next.Bind := fun _ _ _ _ _ _ us hl => match us, hl with | [_], _ => rfl
theorem b__law_word : t__law_word.Bind := fun _ _ _ _ _ _ us hl => match us, hl with | [_, _, _], _ => rfl
theorem b__law_kinds : t__law_kinds.Bind := fun _ _ _ _ _ _ us hl => match us, hl with | [_], _ => rfl
theorem b__law_makers : t__law_makers.Bind := fun _ _ _ _ _ _ us hl => match us, hl with | [_, _], _ => rfl
theorem b__law_filled : t__law_filled.Bind := fun _ _ _ _ _ _ us hl => match us, hl with | [_, _], _ => rfl
theorem b__law_same : t__law_same.Bind := fun _ _ _ _ _ _ us hl => match us, hl with | [_, _], _ => rfl
theorem b__law_open : t__law_open.Bind := fun _ _ _ _ _ _ us hl => match us, hl with | [_, _, _, _, _], _ => rfl
theorem b__law_open_fills : t__law_open_fills.Bind := fun _ _ _ _ _ _ us hl => match us, hl with | [_, _, _, _], _ => rfl
theorem b__law_asked_names : t__law_asked_names.Bind := fun _ _ _ _ _ _ us hl => match us, hl with | [_, _], _ => rfl
theorem b__law_sided : t__law_sided.Bind := fun _ _ _ _ _ _ us hl => match us, hl with | [_, _], _ => rfl
theorem b__law_now : t__law_now.Bind := fun _ _ _ _ _ _ us hl => match us, hl with | [_, _], _ => rfl
theorem b__law_within : t__law_within.Bind := fun _ _ _ _ _ _ us hl => match us, hl with | [_, _, _], _ => rfl
theorem b__law_alike : t__law_alike.Bind := fun _ _ _ _ _ _ us hl => match us, hl with | [_, _, _], _ => rfl
theorem b__law_can : t__law_can.Bind := fun _ _ _ _ _ _ us hl => match us, hl with | [_, _], _ => rfl
theorem b__law_is_new : t__law_is_new.Bind := fun _ _ _ _ _ _ us hl => match us, hl with | [_], _ => rfl
theorem b__law_is_half : t__law_is_half.Bind := fun _ _ _ _ _ _ us hl => match us, hl with | [_, _], _ => rfl
theorem b__law_right : t__law_right.Bind := fun _ _ _ _ _ _ us hl => match us, hl with | [_, _, _, _], _ => rfl
theorem b__law_second : t__law_second.Bind := fun _ _ _ _ _ _ us hl => match us, hl with | [_, _, _, _, _], _ => rfl
theorem b__law_varied : t__law_varied.Bind := fun _ _ _ _ _ _ us hl => match us, hl with | [_, _, _, _, _, _], _ => rfl
theorem b_law : t_law.Bind := fun _ _ _ _ _ _ us hl => match us, hl with | [_], _ => rfl
theorem good : ∀ t ∈ trs, t.Good TT fr (trs.map fun t => (t.x, (t.f, t.ps.length))) := List.forall_mem_cons.mpr ⟨g_parts_of, List.forall_mem_cons.mpr ⟨g_add_nodes, List.forall_mem_cons.mpr ⟨g_nodes_of, List.forall_mem_cons.mpr ⟨g_names_of, List.forall_mem_cons.mpr ⟨g_own_names, List.forall_mem_cons.mpr ⟨g_side_of, List.forall_mem_cons.mpr ⟨g_known_as, List.forall_mem_cons.mpr ⟨g_stands_in, List.forall_mem_cons.mpr ⟨g_joined, List.forall_mem_cons.mpr ⟨g_resolved, List.forall_mem_cons.mpr ⟨g_common, List.forall_mem_cons.mpr ⟨g__law_deck, List.forall_mem_cons.mpr ⟨g__law_next, List.forall_mem_cons.mpr ⟨g__law_word, List.forall_mem_cons.mpr ⟨g__law_kinds, List.forall_mem_cons.mpr ⟨g__law_makers, List.forall_mem_cons.mpr ⟨g__law_filled, List.forall_mem_cons.mpr ⟨g__law_same, List.forall_mem_cons.mpr ⟨g__law_open, List.forall_mem_cons.mpr ⟨g__law_open_fills, List.forall_mem_cons.mpr ⟨g__law_asked_names, List.forall_mem_cons.mpr ⟨g__law_sided, List.forall_mem_cons.mpr ⟨g__law_now, List.forall_mem_cons.mpr ⟨g__law_within, List.forall_mem_cons.mpr ⟨g__law_alike, List.forall_mem_cons.mpr ⟨g__law_can, List.forall_mem_cons.mpr ⟨g__law_is_new, List.forall_mem_cons.mpr ⟨g__law_is_half, List.forall_mem_cons.mpr ⟨g__law_right, List.forall_mem_cons.mpr ⟨g__law_second, List.forall_mem_cons.mpr ⟨g__law_varied, List.forall_mem_cons.mpr ⟨g_law, List.forall_mem_nil _⟩⟩⟩⟩⟩⟩⟩⟩⟩⟩⟩⟩⟩⟩⟩⟩⟩⟩⟩⟩⟩⟩⟩⟩⟩⟩⟩⟩⟩⟩⟩⟩
theorem bind : ∀ t ∈ trs, t.Bind := List.forall_mem_cons.mpr ⟨b_parts_of, List.forall_mem_cons.mpr ⟨b_add_nodes, List.forall_mem_cons.mpr ⟨b_nodes_of, List.forall_mem_cons.mpr ⟨b_names_of, List.forall_mem_cons.mpr ⟨b_own_names, List.forall_mem_cons.mpr ⟨b_side_of, List.forall_mem_cons.mpr ⟨b_known_as, List.forall_mem_cons.mpr ⟨b_stands_in, List.forall_mem_cons.mpr ⟨b_joined, List.forall_mem_cons.mpr ⟨b_resolved, List.forall_mem_cons.mpr ⟨b_common, List.forall_mem_cons.mpr ⟨b__law_deck, List.forall_mem_cons.mpr ⟨b__law_next, List.forall_mem_cons.mpr ⟨b__law_word, List.forall_mem_cons.mpr ⟨b__law_kinds, List.forall_mem_cons.mpr ⟨b__law_makers, List.forall_mem_cons.mpr ⟨b__law_filled, List.forall_mem_cons.mpr ⟨b__law_same, List.forall_mem_cons.mpr ⟨b__law_open, List.forall_mem_cons.mpr ⟨b__law_open_fills, List.forall_mem_cons.mpr ⟨b__law_asked_names, List.forall_mem_cons.mpr ⟨b__law_sided, List.forall_mem_cons.mpr ⟨b__law_now, List.forall_mem_cons.mpr ⟨b__law_within, List.forall_mem_cons.mpr ⟨b__law_alike, List.forall_mem_cons.mpr ⟨b__law_can, List.forall_mem_cons.mpr ⟨b__law_is_new, List.forall_mem_cons.mpr ⟨b__law_is_half, List.forall_mem_cons.mpr ⟨b__law_right, List.forall_mem_cons.mpr ⟨b__law_second, List.forall_mem_cons.mpr ⟨b__law_varied, List.forall_mem_cons.mpr ⟨b_law, List.forall_mem_nil _⟩⟩⟩⟩⟩⟩⟩⟩⟩⟩⟩⟩⟩⟩⟩⟩⟩⟩⟩⟩⟩⟩⟩⟩⟩⟩⟩⟩⟩⟩⟩⟩
abbrev R : PySem.W.OpenRow := PySem.W.OpenLaw.row PySem.Challenge.rw_needfill_k50_things_in_common
abbrev fa : List He.Fa := MS.faOf trs fr
abbrev fn : List He.DefD := MS.fnOf trs
abbrev hk : PySem.W.Hook := He.hookD 4 fa fn
def ob (s : PySem.W.SharedT) : He.AlD := He.obsDG 4 fa fn (HandSHeadRun.getT s)
theorem ob_eq (s : PySem.W.SharedT) : ob s = hk.obs s.abs := He.obsDG_eq (HandSHeadRun.getT_eq s)
theorem run (w : World) : HandSHeadRun.RunEq R (PySem.W.view R.prog [34]) hk ob 3000 loose w := by
  intro os
  kernel_rfl
end Hd
open PySem PySem.W PySem.Calls PyProof.Rows
theorem holds_of (hlaw : ∀ ns : List Int, ns.length ≤ 63 → ∃ S, ML.call Hd.TT 100000 200 Hd.t_law.f [.rol (ns.map .int)] [] = .ok (.bl true) S) : PySem.Challenge.rw_needfill_k50_things_in_common.Holds := by
  w_on; o_law
  refine HandSHeadRun.head_any (r := OpenLaw.row PySem.Challenge.rw_needfill_k50_things_in_common) (q := view (OpenLaw.row PySem.Challenge.rw_needfill_k50_things_in_common).prog [34]) (H := Hd.hk) (ob := Hd.ob) (M := 3000) (loose := Hd.loose) (d := HandSHeadRun.topDef (OpenLaw.row PySem.Challenge.rw_needfill_k50_things_in_common).prog 34) (kwd := []) Hd.ob_eq
    (by kernel_rfl) (fun s => by kernel_rfl) Hd.run (by kernel_rfl) (by kernel_rfl) (by kernel_rfl) (by rfl) (by first | assumption | decide +kernel) (by decide +kernel) ⟨rfl, rfl, rfl, rfl, rfl, by decide +kernel⟩ ?hw ?hc
  case hw => w_witness2
  case hc =>
    refine L2.walk_ofE (l := PySem.Challenge.rw_needfill_k50_things_in_common) (n := 63) (k := 200) (x := "_law_script") (CX := L2.CX0) rfl (by decide) (by kernel_rfl) ⟨rfl, by decide, by decide⟩ ?F (fun _ _ _ _ z => z)
    intro w mg fa h Y G hmg0
    obtain ⟨K, KX, c⟩ := Y
    have hmg : mg ("law" : PySem.Str) = some (.ref fa) := by
      have e : (HandSHeadRun.topDef (OpenLaw.row PySem.Challenge.rw_needfill_k50_things_in_common).prog 34).name = ("law" : PySem.Str) := by kernel_rfl
      rw [← e]
      exact hmg0
    exact MS.law_F (T := Hd.TT) (Wn := 100000) (n := 200) (c0 := fun K => ⟨K, fun _ => 0, fun _ => default⟩) (law := Hd.t_law) rfl KX G hmg c Hd.good Hd.bind (by simp [Hd.trs]) rfl hlaw
end
section
set_option linter.all false
namespace ML
/-! rules for loops, as they stand in a goal -/
theorem forD_run {α : Type} {g : Gd} {f : D → Env → St → Out Fl} {F : α → D} {Inv : List α → Env → St → Prop} {Rt : D → St → Prop} (hg : ∀ l σ S, Inv l σ S → g.ok S = true)
    (hs : ∀ t r σ S, Inv (t :: r) σ S → (∃ σ' S', f (F t) σ S = .ok (.nx σ') S' ∧ Inv r σ' S') ∨ (∃ d S', f (F t) σ S = .ok (.rt d) S' ∧ Rt d S')) :
    ∀ {ts : List α} {σ : Env} {S : St}, Inv ts σ S → (∃ σ' S', forD g f (ts.map F) σ S = .ok (.nx σ') S' ∧ Inv [] σ' S') ∨ ∃ d S', forD g f (ts.map F) σ S = .ok (.rt d) S' ∧ Rt d S'
  | [], σ, S, h => .inl ⟨σ, S, by simp [forD, hg _ _ _ h], h⟩
  | t :: r, σ, S, h => by
    have h0 := hg _ _ _ h
    rcases hs t r σ S h with ⟨σ1, S1, e, i⟩ | ⟨d, S1, e, i⟩
    · rcases forD_run hg hs i with ⟨σ2, S2, e2, i2⟩ | ⟨d, S2, e2, i2⟩
      · exact .inl ⟨σ2, S2, by simp [forD, h0, e, Out.bnd, e2], i2⟩
      · exact .inr ⟨d, S2, by simp [forD, h0, e, Out.bnd, e2], i2⟩
    · exact .inr ⟨d, S1, by simp [forD, h0, e, Out.bnd], i⟩
theorem forD_bnd {α γ : Type} {g : Gd} {f : D → Env → St → Out Fl} {F : α → D} {ts : List α} {σ : Env} {S : St} {K : Fl → St → Out γ} {R : Out γ} (Inv : List α → Env → St → Prop) (Rt : D → St → Prop) (h0 : Inv ts σ S) (hg : ∀ l σ S, Inv l σ S → g.ok S = true)
    (hs : ∀ t r σ S, Inv (t :: r) σ S → (∃ σ' S', f (F t) σ S = .ok (.nx σ') S' ∧ Inv r σ' S') ∨ (∃ d S', f (F t) σ S = .ok (.rt d) S' ∧ Rt d S'))
    (hn : ∀ σ S, Inv [] σ S → K (.nx σ) S = R) (hr : ∀ d S, Rt d S → K (.rt d) S = R) : (forD g f (ts.map F) σ S).bnd K = R := by
  rcases forD_run hg hs h0 with ⟨σ2, S2, e2, i2⟩ | ⟨d, S2, e2, i2⟩
  · rw [e2]; exact hn _ _ i2
  · rw [e2]; exact hr _ _ i2
/-- .. that no turn leaves -/
theorem forD_nx {α γ : Type} {g : Gd} {f : D → Env → St → Out Fl} {F : α → D} {ts : List α} {σ : Env} {S : St} {K : Fl → St → Out γ} {R : Out γ} (Inv : List α → Env → St → Prop) (h0 : Inv ts σ S) (hg : ∀ l σ S, Inv l σ S → g.ok S = true)
    (hs : ∀ t r σ S, Inv (t :: r) σ S → ∃ σ' S', f (F t) σ S = .ok (.nx σ') S' ∧ Inv r σ' S')
    (hn : ∀ σ S, Inv [] σ S → K (.nx σ) S = R) : (forD g f (ts.map F) σ S).bnd K = R :=
  forD_bnd Inv (fun _ _ => False) h0 hg (fun t r σ S i => .inl (hs t r σ S i)) hn fun _ _ z => z.elim
theorem compD_run {α : Type} {g : Gd} {f : D → St → Out (List D)} {F : α → D} {Inv : List α → List D → St → Prop} (hg : ∀ l a S, Inv l a S → g.ok S = true)
    (hs : ∀ t r a S, Inv (t :: r) a S → ∃ a' S', f (F t) S = .ok a' S' ∧ Inv r (a ++ a') S') : ∀ {ts : List α} {a : List D} {S : St}, Inv ts a S → ∃ a' S', compD g f (ts.map F) S = .ok a' S' ∧ Inv [] (a ++ a') S'
  | [], a, S, h => ⟨[], S, by simp [compD, hg _ _ _ h], by simpa using h⟩
  | t :: r, a, S, h => by
    have h0 := hg _ _ _ h
    obtain ⟨a1, S1, e, i⟩ := hs t r a S h
    obtain ⟨a2, S2, e2, i2⟩ := compD_run hg hs i
    exact ⟨a1 ++ a2, S2, by simp [compD, h0, e, Out.bnd, e2], by simpa using i2⟩
theorem compD_bnd {α γ : Type} {g : Gd} {f : D → St → Out (List D)} {F : α → D} {ts : List α} {S : St} {K : List D → St → Out γ} {R : Out γ} (Inv : List α → List D → St → Prop) (h0 : Inv ts [] S) (hg : ∀ l a S, Inv l a S → g.ok S = true)
    (hs : ∀ t r a S, Inv (t :: r) a S → ∃ a' S', f (F t) S = .ok a' S' ∧ Inv r (a ++ a') S')
    (hn : ∀ a S, Inv [] a S → K a S = R) : (compD g f (ts.map F) S).nox.bnd K = R := by
  obtain ⟨a, S', e, i⟩ := compD_run hg hs h0
  rw [e]
  exact hn _ _ (by simpa using i)
theorem run_rt {T : Tab} {W : Nat} {cl : Nat → List D → St → Out D} {f : Fn} {as : List D} {S S' : St} {d : D} (ha : as.length = f.ar) (h : exSs T W cl f.body (as.map some ++ List.replicate (f.n - f.ar) none) S = .ok (.rt d) S') : runFn T W cl f as S = gc S d S' := by
  unfold runFn
  rw [if_pos ha, h]
theorem run_nx {T : Tab} {W : Nat} {cl : Nat → List D → St → Out D} {f : Fn} {as : List D} {S S' : St} {σ : Env} (ha : as.length = f.ar) (h : exSs T W cl f.body (as.map some ++ List.replicate (f.n - f.ar) none) S = .ok (.nx σ) S') : runFn T W cl f as S = gc S .non S' := by
  unfold runFn
  rw [if_pos ha, h]
/-! ### what a run comes to -/
def Out.to {α : Type} (x : Out α) (Q : α → St → Prop) : Prop := ∃ a S, x = .ok a S ∧ Q a S
section
variable {α β : Type} {x : Out α} {a : α} {S : St} {σ : Env}
@[simp] theorem to_ok {Q : α → St → Prop} : (Out.ok a S).to Q ↔ Q a S := ⟨fun ⟨_, _, e, q⟩ => by cases e; exact q, fun q => ⟨_, _, rfl, q⟩⟩
@[simp] theorem to_bnd {f : α → St → Out β} {Q : β → St → Prop} : (x.bnd f).to Q ↔ x.to fun a S => (f a S).to Q := by
  constructor
  · rintro ⟨b, S', e, q⟩
    cases x with
    | ok a S => exact ⟨a, S, rfl, b, S', e, q⟩
    | exc c fs S => cases e
    | bad => cases e
  · rintro ⟨a, S, e, q⟩
    rw [e]; exact q
@[simp] theorem to_nox {Q : α → St → Prop} : x.nox.to Q ↔ x.to Q := by
  constructor
  · rintro ⟨b, S', e, q⟩
    cases x with
    | ok a S => cases e; exact ⟨b, S', rfl, q⟩
    | exc c fs S => cases e
    | bad => cases e
  · rintro ⟨a, S, e, q⟩
    rw [e]; exact ⟨a, S, rfl, q⟩
theorem lft_to {f : α → St → Out Fl} {Q : Fl → St → Prop} (h : x.to fun a S => (f a S).to Q) : (x.lft σ f).to Q := by
  obtain ⟨a, S, e, q⟩ := h
  rw [e]; exact q
theorem Out.to.mono {Q Q' : α → St → Prop} (h : x.to Q) (f : ∀ a S, Q a S → Q' a S) : x.to Q' := by
  obtain ⟨a, S, e, q⟩ := h
  exact ⟨a, S, e, f _ _ q⟩
theorem to_eq {R : Out α} (h : x.to fun a S => .ok a S = R) : x = R := by
  obtain ⟨a, S, e, q⟩ := h
  rw [e]; exact q
theorem to_of_eq {Q : α → St → Prop} (e : x = .ok a S) (q : Q a S) : x.to Q := ⟨a, S, e, q⟩
end
/-- what a def's body hands back -/
def finD (S : St) : Fl → St → Out D
  | .rt d, S' => gc S d S'
  | .nx _, S' => gc S .non S'
  | .xc c fs _, S' => gcX S c fs S'
  | _, _ => .bad
theorem run_to {T : Tab} {W : Nat} {cl : Nat → List D → St → Out D} {f : Fn} {as : List D} {S : St} {R : Out D} (ha : as.length = f.ar) (h : (exSs T W cl f.body (as.map some ++ List.replicate (f.n - f.ar) none) S).to fun fl S' => finD S fl S' = R) : runFn T W cl f as S = R := by
  obtain ⟨fl, S', e, q⟩ := h
  unfold runFn
  rw [if_pos ha, e]
  cases fl <;> first | exact q | (cases q; done) | skip
  all_goals exact q
theorem run_too {T : Tab} {W : Nat} {cl : Nat → List D → St → Out D} {f : Fn} {as : List D} {S : St} {P : D → St → Prop} (ha : as.length = f.ar) (h : (exSs T W cl f.body (as.map some ++ List.replicate (f.n - f.ar) none) S).to fun fl S' => (finD S fl S').to P) : (runFn T W cl f as S).to P := by
  obtain ⟨fl, S', e, v, S2, e2, q⟩ := h
  exact ⟨v, S2, run_to ha (to_of_eq e e2), q⟩
theorem gc_to {S S' : St} {d : D} {P : D → St → Prop} (h1 : P d S') (h2 : S'.take S.length = S → P d S) : (gc S d S').to P := by
  unfold gc
  split
  · rename_i h
    simp only [Bool.and_eq_true, decide_eq_true_eq] at h
    exact to_ok.mpr (h2 h.1)
  · exact to_ok.mpr h1
theorem forD_to {α : Type} {g : Gd} {f : D → Env → St → Out Fl} {F : α → D} {Q : Fl → St → Prop} (Inv : List α → Env → St → Prop) (hg : ∀ l σ S, Inv l σ S → g.ok S = true)
    (hs : ∀ t r σ S, Inv (t :: r) σ S → (f (F t) σ S).to fun fl S' => match fl with | .nx σ' => Inv r σ' S' | .ct σ' => Inv r σ' S' | .bk σ' => Q (.nx σ') S' | .rt d => Q (.rt d) S' | .xc c fs σ' => Q (.xc c fs σ') S')
    (hn : ∀ σ S, Inv [] σ S → Q (.nx σ) S) : ∀ {ts : List α} {σ : Env} {S : St}, Inv ts σ S → (forD g f (ts.map F) σ S).to Q
  | [], σ, S, h => ⟨.nx σ, S, by simp [forD, hg _ _ _ h], hn _ _ h⟩
  | t :: r, σ, S, h => by
    have h0 := hg _ _ _ h
    obtain ⟨fl, S1, e, q⟩ := hs t r σ S h
    simp only [List.map_cons, forD, h0, if_true, e, to_bnd, to_ok]
    cases fl with
    | nx σ' => exact forD_to Inv hg hs hn q
    | ct σ' => exact forD_to Inv hg hs hn q
    | bk σ' => simpa using q
    | rt d => simpa using q
    | xc c fs σ' => simpa using q
theorem compD_to {α : Type} {g : Gd} {f : D → St → Out (List D)} {F : α → D} {ts : List α} {S : St} {Q : List D → St → Prop} (Inv : List α → List D → St → Prop) (h0 : Inv ts [] S) (hg : ∀ l a S, Inv l a S → g.ok S = true)
    (hs : ∀ t r a S, Inv (t :: r) a S → (f (F t) S).to fun a' S' => Inv r (a ++ a') S')
    (hn : ∀ a S, Inv [] a S → Q a S) : (compD g f (ts.map F) S).to Q := by
  obtain ⟨a, S', e, i⟩ := compD_run (F := F) hg (fun t r a S h => by obtain ⟨a', S', e, q⟩ := hs t r a S h; exact ⟨a', S', e, q⟩) h0
  exact ⟨a, S', e, hn _ _ (by simpa using i)⟩
end ML
end
section
set_option linter.all false
set_option maxRecDepth 10000
namespace Hd
open ML
theorem gc_self (S : St) (d : D) : gc S d S = .ok d S := by unfold gc; split <;> rfl
theorem okG (S : St) : Gd.ok [] S = true := rfl
theorem compD_map {f : D → St → Out (List D)} {S : St} {g : D → List D} : ∀ {xs : List D}, (∀ d ∈ xs, f d S = .ok (g d) S) → compD [] f xs S = .ok (xs.flatMap g) S
  | [], _ => by simp [compD, okG]
  | d :: r, h => by
    have h1 := h d (by simp)
    have h2 := compD_map (f := f) (S := S) (g := g) (xs := r) fun x hx => h x (List.mem_cons_of_mem _ hx)
    simp [compD, okG, h1, h2, Out.bnd]
theorem compD_of {α : Type} {f : D → St → Out (List D)} {S : St} {F : α → D} {g : α → List D} : ∀ {ts : List α}, (∀ t ∈ ts, f (F t) S = .ok (g t) S) → compD [] f (ts.map F) S = .ok (ts.flatMap g) S
  | [], _ => by simp [compD, okG]
  | d :: r, h => by
    have h1 := h d (by simp)
    have h2 := compD_of (f := f) (S := S) (F := F) (g := g) (ts := r) fun x hx => h x (List.mem_cons_of_mem _ hx)
    simp [compD, okG, h1, h2, Out.bnd]
theorem compD_one {α : Type} {f : D → St → Out (List D)} {S : St} {F : α → D} {g : α → D} {ts : List α} (h : ∀ t ∈ ts, f (F t) S = .ok [g t] S) : compD [] f (ts.map F) S = .ok (ts.map g) S := by
  rw [compD_of (g := fun t => [g t]) h]
  congr 1
  induction ts with
  | nil => rfl
  | cons a r ih => simp [List.flatMap_cons, ih fun t ht => h t (List.mem_cons_of_mem _ ht)]
section
variable {α β : Type} {a : α} {S : St} {σ : Env}
@[simp] theorem ok_bnd {f : α → St → Out β} : (Out.ok a S).bnd f = f a S := rfl
@[simp] theorem ok_lft {f : α → St → Out Fl} : (Out.ok a S).lft σ f = f a S := rfl
@[simp] theorem ok_nox : (Out.ok a S).nox = .ok a S := rfl
end
/-- things: names and mades -/
inductive Tm where
  | nm (x : Sg) | mk (w : Sg) (ts : List Tm)
deriving Inhabited
def sName : Sg := [110, 97, 109, 101]
def sMade : Sg := [109, 97, 100, 101]
mutual
def Tm.D : Tm → ML.D
  | .nm x => .tup [.str sName, .str x]
  | .mk w ts => .tup [.str sMade, .str w, .tup (Tm.Ds ts)]
def Tm.Ds : List Tm → List ML.D
  | [] => []
  | t :: ts => t.D :: Tm.Ds ts
end
theorem Tm.Ds_map : ∀ ts : List Tm, Tm.Ds ts = ts.map Tm.D
  | [] => by simp [Tm.Ds]
  | t :: ts => by simp [Tm.Ds, Tm.Ds_map ts]
mutual
def Tm.dep : Tm → Nat
  | .nm _ => 0
  | .mk _ ts => Tm.deps ts + 1
def Tm.deps : List Tm → Nat
  | [] => 0
  | t :: ts => max t.dep (Tm.deps ts)
end
theorem Tm.dep_le {ts : List Tm} {t : Tm} (h : t ∈ ts) : t.dep ≤ Tm.deps ts := by
  induction ts with
  | nil => cases h
  | cons a r ih =>
    rcases List.mem_cons.mp h with e | e
    · subst e; simp [Tm.deps]; omega
    · have := ih e; simp [Tm.deps]; omega
/-- a way to prove it of all things -/
theorem Tm.ind {P : Tm → Prop} (hn : ∀ x, P (.nm x)) (hm : ∀ w ts, (∀ t ∈ ts, P t) → P (.mk w ts)) (t : Tm) : P t := by
  have : ∀ n, ∀ t : Tm, t.dep ≤ n → P t := fun n => by
    induction n with
    | zero =>
      intro t ht
      cases t with
      | nm x => exact hn x
      | mk w ts => simp [Tm.dep] at ht
    | succ n ih =>
      intro t ht
      cases t with
      | nm x => exact hn x
      | mk w ts =>
        refine hm w ts fun s hs => ih s ?_
        have := Tm.dep_le hs
        simp [Tm.dep] at ht
        omega
  exact this t.dep t (Nat.le_refl _)
-- texts short
mutual
def Tm.sh (n : Nat) : Tm → Prop
  | .nm x => x.length ≤ n
  | .mk w ts => w.length ≤ n ∧ Tm.shs n ts
def Tm.shs (n : Nat) : List Tm → Prop
  | [] => True
  | t :: ts => t.sh n ∧ Tm.shs n ts
end
theorem Tm.shs_mem {n : Nat} {ts : List Tm} (h : Tm.shs n ts) {t : Tm} (ht : t ∈ ts) : t.sh n := by
  induction ts with
  | nil => cases ht
  | cons a r ih =>
    simp only [Tm.shs] at h
    rcases List.mem_cons.mp ht with e | e
    · subst e; exact h.1
    · exact ih h.2 e
-- all names put as f says
mutual
def Tm.sub (f : Sg → Tm) : Tm → Tm
  | .nm x => f x
  | .mk w ts => .mk w (Tm.subs f ts)
def Tm.subs (f : Sg → Tm) : List Tm → List Tm
  | [] => []
  | t :: ts => t.sub f :: Tm.subs f ts
end
theorem Tm.subs_map {f : Sg → Tm} : ∀ ts : List Tm, Tm.subs f ts = ts.map (Tm.sub f)
  | [] => by simp [Tm.subs]
  | t :: ts => by simp [Tm.subs, Tm.subs_map ts]
def Tm.side (s : Sg) (t : Tm) : Tm := t.sub fun x => .nm (s ++ x)
section
variable {W : Nat}
theorem call_side {s : Sg} (hs : s.length ≤ 10) : ∀ (t : Tm) (n : Nat) (S : St), t.dep < n → t.sh 1000 → call TT W n 4 [t.D, .str s] S = .ok (t.side s).D S := by
  intro t
  induction t using Tm.ind with
  | hn x =>
    intro n S hn hsh
    cases n with
    | zero => omega
    | succ n =>
      simp only [Tm.sh] at hsh
      have hl : s.length + x.length ≤ lim := by unfold lim; omega
      show runFn TT W (call TT W n) f_side_of _ S = _
      unfold f_side_of
      simp only [Tm.D, Tm.side, Tm.sub]
      simp [runFn, exSs, exS, evE, evEs, evL, evIt, evC, evO, asgT, asgTs, wipe, idxD, atI, ixN, okO, cmpD, D.cmpOk, D.und, D.unds, D.noR, D.noRs, D.depth, D.depths, D.eqp, D.eqps, asBool, binD, mkStr, gc_self, lbD, bltD, sName, sMade, *]
  | hm w ts ih =>
    intro n S hn hsh
    cases n with
    | zero => omega
    | succ n =>
      simp only [Tm.sh] at hsh
      show runFn TT W (call TT W n) f_side_of _ S = _
      unfold f_side_of
      simp only [Tm.D, Tm.side, Tm.sub, Tm.Ds_map, Tm.subs_map]
      simp [runFn, exSs, exS, evE, evEs, evL, evIt, evC, evO, asgT, asgTs, wipe, idxD, atI, ixN, okO, cmpD, D.cmpOk, D.und, D.unds, D.noR, D.noRs, D.depth, D.depths, D.eqp, D.eqps, asBool, binD, mkStr, gc_self, lbD, bltD, sName, sMade, *]
      rw [compD_one (g := fun t => (t.side s).D) fun t ht => ?_]
      · simp [runFn, exSs, exS, evE, evEs, evL, evIt, evC, evO, asgT, asgTs, wipe, idxD, atI, ixN, okO, cmpD, D.cmpOk, D.und, D.unds, D.noR, D.noRs, D.depth, D.depths, D.eqp, D.eqps, asBool, binD, mkStr, gc_self, lbD, bltD, sName, sMade, *]
        simp [Tm.side]
      · have := ih t ht n S (by have := Tm.dep_le ht; simp [Tm.dep] at hn; omega) (Tm.shs_mem hsh.2 ht)
        simp [runFn, exSs, exS, evE, evEs, evL, evIt, evC, evO, asgT, asgTs, wipe, idxD, atI, ixN, okO, cmpD, D.cmpOk, D.und, D.unds, D.noR, D.noRs, D.depth, D.depths, D.eqp, D.eqps, asBool, binD, mkStr, gc_self, lbD, bltD, sName, sMade, *]
theorem call_sided {s : Sg} (hs : s.length ≤ 10) : ∀ (t : Tm) (n : Nat) (S : St), t.dep < n → t.sh 1000 → call TT W n 16 [t.D, .str s] S = .ok (t.side s).D S := by
  intro t
  induction t using Tm.ind with
  | hn x =>
    intro n S hn hsh
    cases n with
    | zero => omega
    | succ n =>
      simp only [Tm.sh] at hsh
      have hl : s.length + x.length ≤ lim := by unfold lim; omega
      show runFn TT W (call TT W n) f__law_sided _ S = _
      unfold f__law_sided
      simp only [Tm.D, Tm.side, Tm.sub]
      simp [runFn, exSs, exS, evE, evEs, evL, evIt, evC, evO, asgT, asgTs, wipe, idxD, atI, ixN, okO, cmpD, D.cmpOk, D.und, D.unds, D.noR, D.noRs, D.depth, D.depths, D.eqp, D.eqps, asBool, binD, mkStr, gc_self, lbD, bltD, sName, sMade, *]
  | hm w ts ih =>
    intro n S hn hsh
    cases n with
    | zero => omega
    | succ n =>
      simp only [Tm.sh] at hsh
      show runFn TT W (call TT W n) f__law_sided _ S = _
      unfold f__law_sided
      simp only [Tm.D, Tm.side, Tm.sub, Tm.Ds_map, Tm.subs_map]
      simp [runFn, exSs, exS, evE, evEs, evL, evIt, evC, evO, asgT, asgTs, wipe, idxD, atI, ixN, okO, cmpD, D.cmpOk, D.und, D.unds, D.noR, D.noRs, D.depth, D.depths, D.eqp, D.eqps, asBool, binD, mkStr, gc_self, lbD, bltD, sName, sMade, *]
      rw [compD_one (g := fun t => (t.side s).D) fun t ht => ?_]
      · simp [runFn, exSs, exS, evE, evEs, evL, evIt, evC, evO, asgT, asgTs, wipe, idxD, atI, ixN, okO, cmpD, D.cmpOk, D.und, D.unds, D.noR, D.noRs, D.depth, D.depths, D.eqp, D.eqps, asBool, binD, mkStr, gc_self, lbD, bltD, sName, sMade, *]
        simp [Tm.side]
      · have := ih t ht n S (by have := Tm.dep_le ht; simp [Tm.dep] at hn; omega) (Tm.shs_mem hsh.2 ht)
        simp [runFn, exSs, exS, evE, evEs, evL, evIt, evC, evO, asgT, asgTs, wipe, idxD, atI, ixN, okO, cmpD, D.cmpOk, D.und, D.unds, D.noR, D.noRs, D.depth, D.depths, D.eqp, D.eqps, asBool, binD, mkStr, gc_self, lbD, bltD, sName, sMade, *]
/-! ### bindings -/
abbrev Bd := List (Sg × Tm)
def Bd.O (b : Bd) : O := .dct (b.map fun p => (.str p.1, p.2.D))
theorem look_O {b : Bd} {x : Sg} : lookD (b.map fun p => (D.str p.1, p.2.D)) (.str x) = (b.lookup x).map Tm.D := by
  unfold lookD
  induction b with
  | nil => rfl
  | cons p r ih =>
    obtain ⟨k, v⟩ := p
    by_cases h : k = x
    · subst h
      simp [List.lookup]
    · have h2 : (x == k) = false := by simpa using fun e => h (Eq.symm e)
      rw [List.map_cons, List.find?_cons_of_neg (by simpa using h), ih]
      simp [List.lookup, h2]
/-- the thing behind the bindings -/
def walk (b : Bd) : Nat → Tm → Tm
  | 0, t => t
  | n + 1, .nm x => match b.lookup x with
    | some t => walk b n t
    | none => .nm x
  | _ + 1, t => t
/-- so many steps -/
inductive Wk (b : Bd) : Nat → Tm → Tm → Prop where
  | mk (w : Sg) (ts : List Tm) : Wk b 0 (.mk w ts) (.mk w ts)
  | nm {x : Sg} (h : b.lookup x = none) : Wk b 0 (.nm x) (.nm x)
  | st {x : Sg} {t u : Tm} {n : Nat} (h : b.lookup x = some t) (r : Wk b n t u) : Wk b (n + 1) (.nm x) u
def isB (b : Bd) : Tm → Bool
  | .nm x => (b.lookup x).isSome
  | .mk _ _ => false
theorem whl_walk {b : Bd} {C : Env → St → Out Bool} {F : Env → St → Out Fl} {S : St} {σ : Tm → Env} (hC : ∀ t, C (σ t) S = .ok (isB b t) S) (hF : ∀ x t, b.lookup x = some t → F (σ (.nm x)) S = .ok (.nx (σ t)) S) :
    ∀ (k m : Nat) (t u : Tm), Wk b m t u → m < k → whlD C F k (σ t) S = .ok (.nx (σ u)) S
  | 0, m, t, u, h, hm => by omega
  | k + 1, m, t, u, h, hm => by
    unfold whlD
    rw [hC]
    cases h with
    | mk w ts => simp [isB]
    | nm hx => simp [isB, hx]
    | st hx r =>
      simp [isB, hx, hF _ _ hx]
      exact whl_walk hC hF k _ _ _ r (by omega)
theorem call_known {b : Bd} {l : Nat} {S : St} (hl : S[l]? = some b.O) {m : Nat} {t u : Tm} (h : Wk b m t u) (hm : m < W) (n : Nat) : call TT W (n + 1) 6 [t.D, .loc l] S = .ok u.D S := by
  show runFn TT W (call TT W n) f_known_as _ S = _
  unfold f_known_as
  unfold Bd.O at hl
  simp [runFn, exSs, exS]
  rw [whl_walk (b := b) (σ := fun t => [some t.D, some (.loc l)]) (fun t => ?_) (fun x t hx => ?_) _ _ t u h hm]
  · simp [runFn, exSs, exS, evE, evEs, evL, evIt, evC, evO, asgT, asgTs, wipe, idxD, atI, ixN, okO, cmpD, D.cmpOk, D.und, D.unds, D.noR, D.noRs, D.depth, D.depths, D.eqp, D.eqps, asBool, binD, mkStr, gc_self, lbD, bltD, sName, sMade, *]
  · cases t with
    | mk w ts =>
      simp only [Tm.D, isB]
      simp [runFn, exSs, exS, evE, evEs, evL, evIt, evC, evO, asgT, asgTs, wipe, idxD, atI, ixN, okO, cmpD, D.cmpOk, D.und, D.unds, D.noR, D.noRs, D.depth, D.depths, D.eqp, D.eqps, asBool, binD, mkStr, gc_self, lbD, bltD, sName, sMade, *]
    | nm x =>
      simp only [Tm.D, isB]
      simp [runFn, exSs, exS, evE, evEs, evL, evIt, evC, evO, asgT, asgTs, wipe, idxD, atI, ixN, okO, cmpD, D.cmpOk, D.und, D.unds, D.noR, D.noRs, D.depth, D.depths, D.eqp, D.eqps, asBool, binD, mkStr, gc_self, lbD, bltD, sName, sMade, *]
      simp [inD, hl, keyOk, look_O]
  · simp only [Tm.D]
    simp [runFn, exSs, exS, evE, evEs, evL, evIt, evC, evO, asgT, asgTs, wipe, idxD, atI, ixN, okO, cmpD, D.cmpOk, D.und, D.unds, D.noR, D.noRs, D.depth, D.depths, D.eqp, D.eqps, asBool, binD, mkStr, gc_self, lbD, bltD, sName, sMade, *]
    simp [keyOk, look_O, hx]
end
end Hd
end
section
set_option linter.all false
set_option maxRecDepth 10000
namespace Hd
open ML
/-! ### bindings and what they mean -/
inductive BOk : Bd → Prop where
  | nil : BOk []
  | snoc {b : Bd} {x : Sg} {t : Tm} (h : BOk b) (hx : b.lookup x = none) (ht : ∀ y, t = .nm y → b.lookup y = none ∧ y ≠ x) : BOk (b ++ [(x, t)])
theorem look_snoc {b : Bd} {x y : Sg} {t : Tm} : (b ++ [(x, t)]).lookup y = (b.lookup y).or (if y = x then some t else none) := by
  rw [List.lookup_append]
  congr 1
  by_cases h : y = x
  · subst h; simp [List.lookup]
  · have : (y == x) = false := by simpa using h
    simp [List.lookup, this, h]
theorem walk_ex {b : Bd} (h : BOk b) : ∀ t : Tm, ∃ m u, Wk b m t u ∧ m ≤ b.length := by
  induction h with
  | nil =>
    intro t
    cases t with
    | mk w ts => exact ⟨0, _, .mk w ts, Nat.le_refl _⟩
    | nm x => exact ⟨0, _, .nm rfl, Nat.le_refl _⟩
  | snoc h hx ht ih =>
    rename_i b x t0
    intro t
    have up : ∀ {m : Nat} {t u : Tm}, Wk b m t u → (∀ z, u = .nm z → z ≠ x) → Wk (b ++ [(x, t0)]) m t u := fun w hz => by
      induction w with
      | mk w ts => exact .mk w ts
      | nm hn => rename_i y; exact .nm (by rw [look_snoc, hn]; simp [hz y rfl])
      | st hs r ih => exact .st (by rw [look_snoc, hs]; rfl) (ih hz)
    have up1 : ∀ {m : Nat} {t u v : Tm}, Wk b m t u → u = .nm x → Wk (b ++ [(x, t0)]) 0 t0 v → Wk (b ++ [(x, t0)]) (m + 1) t v := fun w hu hv => by
      induction w with
      | mk w ts => cases hu
      | nm hn => cases hu; exact .st (by rw [look_snoc, hx]; simp) hv
      | st hs r ih => exact .st (by rw [look_snoc, hs]; rfl) (ih hu)
    obtain ⟨m, u, w, hm⟩ := ih t
    by_cases hu : u = .nm x
    · cases t0 with
      | mk w' ts => exact ⟨m + 1, _, up1 w hu (.mk w' ts), by simp; omega⟩
      | nm y =>
        obtain ⟨h1, h2⟩ := ht y rfl
        exact ⟨m + 1, _, up1 w hu (.nm (by rw [look_snoc, h1]; simp [h2])), by simp; omega⟩
    · exact ⟨m, u, up w fun z hz e => hu (by rw [hz, e]), by simp; omega⟩
structure Sol (b : Bd) (σ : Sg → Tm) : Prop where
  bd : ∀ x t, b.lookup x = some t → σ x = t.sub σ
  fr : ∀ x, b.lookup x = none → σ x = .nm x
theorem Wk.sub {b : Bd} {σ : Sg → Tm} (s : Sol b σ) {m : Nat} {t u : Tm} (w : Wk b m t u) : u.sub σ = t.sub σ := by
  induction w with
  | mk _ _ => rfl
  | nm _ => rfl
  | st h r ih => rename_i x t u n; rw [ih, ← s.bd x t h]; simp [Tm.sub]
theorem Wk.end {b : Bd} {m : Nat} {t u : Tm} (w : Wk b m t u) : ∀ z, u = .nm z → b.lookup z = none := by
  induction w with
  | mk _ _ => intro z e; cases e
  | nm h => intro z e; cases e; exact h
  | st h r ih => exact ih
mutual
def Tm.occ (x : Sg) : Tm → Bool
  | .nm y => y == x
  | .mk _ ts => Tm.occs x ts
def Tm.occs (x : Sg) : List Tm → Bool
  | [] => false
  | t :: ts => t.occ x || Tm.occs x ts
end
theorem Tm.occs_any {x : Sg} : ∀ ts : List Tm, Tm.occs x ts = ts.any (Tm.occ x)
  | [] => by simp [Tm.occs]
  | t :: ts => by simp [Tm.occs, Tm.occs_any ts]
theorem sub_sub {f g : Sg → Tm} (t : Tm) : (t.sub f).sub g = t.sub fun x => (f x).sub g := by
  induction t using Tm.ind with
  | hn x => simp [Tm.sub]
  | hm w ts ih =>
    simp only [Tm.sub, Tm.subs_map, List.map_map]
    congr 1
    exact List.map_congr_left fun t ht => ih t ht
def one (x : Sg) (s : Tm) : Sg → Tm := fun y => if y = x then s else .nm y
theorem sub_one {x : Sg} {s : Tm} (t : Tm) (h : t.occ x = false) : t.sub (one x s) = t := by
  induction t using Tm.ind with
  | hn y =>
    simp only [Tm.occ, beq_eq_false_iff_ne, ne_eq] at h
    simp [Tm.sub, one, h]
  | hm w ts ih =>
    simp only [Tm.occ, Tm.occs_any, List.any_eq_false] at h
    simp only [Tm.sub, Tm.subs_map]
    congr 1
    conv => rhs; rw [← List.map_id ts]
    exact List.map_congr_left fun t ht => ih t ht (by simpa using h t ht)
theorem Sol.snoc {b : Bd} {σ : Sg → Tm} (s : Sol b σ) {x : Sg} {t : Tm} (hx : b.lookup x = none) (ht : (t.sub σ).occ x = false) : Sol (b ++ [(x, t)]) fun y => (σ y).sub (one x (t.sub σ)) where
  bd := fun y u h => by
    rw [look_snoc] at h
    cases hb : b.lookup y with
    | some v =>
      rw [hb] at h
      have e : v = u := by simpa using h
      subst e
      show (σ y).sub _ = _
      rw [s.bd y v hb, sub_sub]
    | none =>
      rw [hb] at h
      by_cases e : y = x
      · subst e
        simp at h
        subst h
        rw [s.fr y hb, ← sub_sub, sub_one _ ht]
        simp [Tm.sub, one]
      · simp [e] at h
  fr := fun y h => by
    rw [look_snoc] at h
    have h1 : b.lookup y = none := by cases hb : b.lookup y <;> simp [hb] at h ⊢
    have h2 : y ≠ x := fun e => by subst e; simp [h1] at h
    rw [s.fr y h1]
    simp [Tm.sub, one, h2]
theorem bools_map {α : Type} {g : α → Bool} : ∀ ts : List α, bools (ts.map fun t => .bl (g t)) = some (ts.map g)
  | [] => rfl
  | t :: ts => by simp [bools, bools_map ts]
section
variable {W : Nat}
theorem call_stands {b : Bd} {l : Nat} {S : St} (hl : S[l]? = some b.O) (ok : BOk b) {σ : Sg → Tm} (s : Sol b σ) (hW : b.length < W) (x : Sg) : ∀ (k n : Nat) (t : Tm), (t.sub σ).dep < k → k ≤ n → call TT W (n + 1) 5 [.str x, t.D, .loc l] S = .ok (.bl ((t.sub σ).occ x)) S
  | 0, n, t, h, _ => by omega
  | k + 1, n, t, hk, hn => by
    obtain ⟨m, u, w, hm⟩ := walk_ex ok t
    have hu := w.sub s
    cases n with
    | zero => omega
    | succ n =>
      have hkn := call_known (W := W) hl w (by omega) n
      show runFn TT W (call TT W (n + 1)) f_stands_in _ S = _
      unfold f_stands_in
      rw [← hu] at hk ⊢
      cases u with
      | nm z =>
        have hz := s.fr z (w.end z rfl)
        simp only [Tm.sub, hz, Tm.occ]
        simp only [Tm.D] at hkn
        simp [runFn, exSs, exS, evE, evEs, evL, evIt, evC, evO, asgT, asgTs, wipe, idxD, atI, ixN, okO, cmpD, D.cmpOk, D.und, D.unds, D.noR, D.noRs, D.depth, D.depths, D.eqp, D.eqps, asBool, binD, mkStr, gc_self, lbD, bltD, sName, sMade, *]
      | mk w' ts =>
        simp only [Tm.D, Tm.Ds_map] at hkn
        simp only [Tm.sub, Tm.occ, Tm.subs_map, Tm.occs_any]
        simp [runFn, exSs, exS, evE, evEs, evL, evIt, evC, evO, asgT, asgTs, wipe, idxD, atI, ixN, okO, cmpD, D.cmpOk, D.und, D.unds, D.noR, D.noRs, D.depth, D.depths, D.eqp, D.eqps, asBool, binD, mkStr, gc_self, lbD, bltD, sName, sMade, *]
        rw [compD_one (g := fun t => .bl ((t.sub σ).occ x)) fun t ht => ?_]
        · simp [runFn, exSs, exS, evE, evEs, evL, evIt, evC, evO, asgT, asgTs, wipe, idxD, atI, ixN, okO, cmpD, D.cmpOk, D.und, D.unds, D.noR, D.noRs, D.depth, D.depths, D.eqp, D.eqps, asBool, binD, mkStr, gc_self, lbD, bltD, sName, sMade, *]
          simp [bools_map, List.any_map, gc_self]
          rfl
        · have h1 : (t.sub σ).dep < k := by
            have := Tm.dep_le (ts := Tm.subs σ ts) (t := t.sub σ) (by rw [Tm.subs_map]; exact List.mem_map_of_mem ht)
            simp [Tm.sub, Tm.dep] at hk
            omega
          have := call_stands hl ok s hW x k n t h1 (by omega)
          simp [runFn, exSs, exS, evE, evEs, evL, evIt, evC, evO, asgT, asgTs, wipe, idxD, atI, ixN, okO, cmpD, D.cmpOk, D.und, D.unds, D.noR, D.noRs, D.depth, D.depths, D.eqp, D.eqps, asBool, binD, mkStr, gc_self, lbD, bltD, sName, sMade, *]
end
end Hd
end
section
set_option linter.all false
set_option maxRecDepth 10000
namespace Hd
open ML
theorem gc_len {S S' : St} {d : D} (h : S'.length = S.length) : gc S d S' = .ok d S' := by
  unfold gc
  split
  · rename_i hc
    simp only [Bool.and_eq_true, decide_eq_true_eq] at hc
    rw [← hc.1, ← h, List.take_length]
  · rfl
theorem gc_set {S : St} {l : Nat} {o : O} {d : D} : gc S d (S.set l o) = .ok d (S.set l o) := gc_len (by simp)
/-! ### things as data -/
mutual
theorem Tm.und : ∀ t : Tm, t.D.und 0 = true
  | .nm x => by simp [Tm.D, D.und, D.unds]
  | .mk w ts => by simp [Tm.D, D.und, D.unds, Tm.unds ts]
theorem Tm.unds : ∀ ts : List Tm, D.unds 0 (Tm.Ds ts) = true
  | [] => by simp [Tm.Ds, D.unds]
  | t :: ts => by simp [Tm.Ds, D.unds, Tm.und t, Tm.unds ts]
end
mutual
theorem Tm.noR : ∀ t : Tm, t.D.noR = true
  | .nm x => by simp [Tm.D, D.noR, D.noRs]
  | .mk w ts => by simp [Tm.D, D.noR, D.noRs, Tm.noRs ts]
theorem Tm.noRs : ∀ ts : List Tm, D.noRs (Tm.Ds ts) = true
  | [] => by simp [Tm.Ds, D.noRs]
  | t :: ts => by simp [Tm.Ds, D.noRs, Tm.noR t, Tm.noRs ts]
end
mutual
theorem Tm.ddep : ∀ t : Tm, t.D.depth ≤ 2 * t.dep + 1
  | .nm x => by simp [Tm.D, D.depth, D.depths, Tm.dep]
  | .mk w ts => by
    have := Tm.ddeps ts
    simp [Tm.D, D.depth, D.depths, Tm.dep]
    omega
theorem Tm.ddeps : ∀ ts : List Tm, D.depths (Tm.Ds ts) ≤ 2 * Tm.deps ts + 1
  | [] => by simp [Tm.Ds, D.depths]
  | t :: ts => by
    have := Tm.ddep t
    have := Tm.ddeps ts
    simp [Tm.Ds, D.depths, Tm.deps]
    omega
end
theorem Tm.cmp {t : Tm} (h : t.dep ≤ 20) : t.D.cmpOk = true := by
  have := Tm.ddep t
  simp [D.cmpOk, Tm.und, Tm.noR]
  omega
mutual
theorem Tm.eqp_iff : ∀ t u : Tm, D.eqp t.D u.D = true ↔ t = u
  | .nm x, .nm y => by simp [Tm.D, D.eqp, D.eqps]
  | .nm x, .mk w ts => by simp [Tm.D, D.eqp, D.eqps, sName, sMade]
  | .mk w ts, .nm x => by simp [Tm.D, D.eqp, D.eqps, sName, sMade]
  | .mk w ts, .mk v us => by simp [Tm.D, D.eqp, D.eqps, Tm.eqps_iff ts us]
theorem Tm.eqps_iff : ∀ ts us : List Tm, D.eqps (Tm.Ds ts) (Tm.Ds us) = true ↔ ts = us
  | [], [] => by simp [Tm.Ds, D.eqps]
  | [], u :: us => by simp [Tm.Ds, D.eqps]
  | t :: ts, [] => by simp [Tm.Ds, D.eqps]
  | t :: ts, u :: us => by simp [Tm.Ds, D.eqps, Tm.eqp_iff t u, Tm.eqps_iff ts us]
end
instance : DecidableEq Tm := fun t u => if h : D.eqp t.D u.D = true then .isTrue ((Tm.eqp_iff t u).mp h) else .isFalse fun e => h ((Tm.eqp_iff t u).mpr e)
theorem Tm.eqp_dec (t u : Tm) : D.eqp t.D u.D = decide (t = u) := by
  by_cases h : t = u
  · rw [decide_eq_true h, (Tm.eqp_iff t u).mpr h]
  · rw [decide_eq_false h]
    cases e : D.eqp t.D u.D with
    | false => rfl
    | true => exact absurd ((Tm.eqp_iff t u).mp e) h
theorem any_bl {α : Type} {g : α → Bool} : ∀ ts : List α, ((ts.map fun t => D.bl (g t)).any fun x => D.eqp x (.bl true)) = ts.any g
  | [] => rfl
  | t :: ts => by
    have := any_bl (g := g) ts
    simp only [List.map_cons, List.any_cons, this, D.eqp]
    cases g t <;> rfl
section
variable {W : Nat}
theorem call_now {b : Bd} {l : Nat} {S : St} (hl : S[l]? = some b.O) {m : Nat} {t u : Tm} (h : Wk b m t u) (hm : m < W) (n : Nat) : call TT W (n + 1) 18 [t.D, .loc l] S = .ok u.D S := by
  show runFn TT W (call TT W n) f__law_now _ S = _
  unfold f__law_now
  unfold Bd.O at hl
  simp [runFn, exSs, exS]
  rw [whl_walk (b := b) (σ := fun t => [some t.D, some (.loc l)]) (fun t => ?_) (fun x t hx => ?_) _ _ t u h hm]
  · simp [runFn, exSs, exS, evE, evEs, evL, evIt, evC, evO, asgT, asgTs, wipe, idxD, atI, ixN, okO, cmpD, D.cmpOk, D.und, D.unds, D.noR, D.noRs, D.depth, D.depths, D.eqp, D.eqps, asBool, binD, mkStr, gc_self, lbD, bltD, sName, sMade, *]
  · cases t with
    | mk w ts =>
      simp only [Tm.D, isB]
      simp [runFn, exSs, exS, evE, evEs, evL, evIt, evC, evO, asgT, asgTs, wipe, idxD, atI, ixN, okO, cmpD, D.cmpOk, D.und, D.unds, D.noR, D.noRs, D.depth, D.depths, D.eqp, D.eqps, asBool, binD, mkStr, gc_self, lbD, bltD, sName, sMade, *]
    | nm x =>
      simp only [Tm.D, isB]
      simp [runFn, exSs, exS, evE, evEs, evL, evIt, evC, evO, asgT, asgTs, wipe, idxD, atI, ixN, okO, cmpD, D.cmpOk, D.und, D.unds, D.noR, D.noRs, D.depth, D.depths, D.eqp, D.eqps, asBool, binD, mkStr, gc_self, lbD, bltD, sName, sMade, *]
      simp [inD, hl, keyOk, look_O]
  · simp only [Tm.D]
    simp [runFn, exSs, exS, evE, evEs, evL, evIt, evC, evO, asgT, asgTs, wipe, idxD, atI, ixN, okO, cmpD, D.cmpOk, D.und, D.unds, D.noR, D.noRs, D.depth, D.depths, D.eqp, D.eqps, asBool, binD, mkStr, gc_self, lbD, bltD, sName, sMade, *]
    simp [keyOk, look_O, hx]
theorem call_within {b : Bd} {l : Nat} {S : St} (hl : S[l]? = some b.O) (ok : BOk b) {σ : Sg → Tm} (s : Sol b σ) (hW : b.length < W) (x : Sg) : ∀ (k n : Nat) (t : Tm), (t.sub σ).dep < k → k ≤ n → call TT W (n + 1) 17 [.str x, t.D, .loc l] S = .ok (.bl ((t.sub σ).occ x)) S
  | 0, n, t, h, _ => by omega
  | k + 1, n, t, hk, hn => by
    obtain ⟨m, u, w, hm⟩ := walk_ex ok t
    have hu := w.sub s
    cases n with
    | zero => omega
    | succ n =>
      have hkn := call_now (W := W) hl w (by omega) n
      show runFn TT W (call TT W (n + 1)) f__law_within _ S = _
      unfold f__law_within
      rw [← hu] at hk ⊢
      cases u with
      | nm z =>
        have hz := s.fr z (w.end z rfl)
        simp only [Tm.sub, hz, Tm.occ]
        simp only [Tm.D] at hkn
        simp [runFn, exSs, exS, evE, evEs, evL, evIt, evC, evO, asgT, asgTs, wipe, idxD, atI, ixN, okO, cmpD, D.cmpOk, D.und, D.unds, D.noR, D.noRs, D.depth, D.depths, D.eqp, D.eqps, asBool, binD, mkStr, gc_self, lbD, bltD, sName, sMade, *]
      | mk w' ts =>
        simp only [Tm.D, Tm.Ds_map] at hkn
        simp only [Tm.sub, Tm.occ, Tm.subs_map, Tm.occs_any]
        simp [runFn, exSs, exS, evE, evEs, evL, evIt, evC, evO, asgT, asgTs, wipe, idxD, atI, ixN, okO, cmpD, D.cmpOk, D.und, D.unds, D.noR, D.noRs, D.depth, D.depths, D.eqp, D.eqps, asBool, binD, mkStr, gc_self, lbD, bltD, sName, sMade, *]
        rw [compD_one (g := fun t => .bl ((t.sub σ).occ x)) fun t ht => ?_]
        · have fl : ((ts.map fun t => D.bl ((t.sub σ).occ x)).all D.flat) = true := by simp [D.flat]
          simp [runFn, exSs, exS, evE, evEs, evL, evIt, evC, evO, asgT, asgTs, wipe, idxD, atI, ixN, okO, cmpD, D.cmpOk, D.und, D.unds, D.noR, D.noRs, D.depth, D.depths, D.eqp, D.eqps, asBool, binD, mkStr, gc_self, lbD, bltD, sName, sMade, *]
          rw [inItems, fl, any_bl]
          simp [D.flat, gc_self, List.any_map]
          rfl
        · have h1 : (t.sub σ).dep < k := by
            have := Tm.dep_le (ts := Tm.subs σ ts) (t := t.sub σ) (by rw [Tm.subs_map]; exact List.mem_map_of_mem ht)
            simp [Tm.sub, Tm.dep] at hk
            omega
          have := call_within hl ok s hW x k n t h1 (by omega)
          simp [runFn, exSs, exS, evE, evEs, evL, evIt, evC, evO, asgT, asgTs, wipe, idxD, atI, ixN, okO, cmpD, D.cmpOk, D.und, D.unds, D.noR, D.noRs, D.depth, D.depths, D.eqp, D.eqps, asBool, binD, mkStr, gc_self, lbD, bltD, sName, sMade, *]
end
end Hd
end
section
set_option linter.all false
namespace Hd
open ML
/-- turn by turn -/
def thr {α β γ : Type} (g : α → β → Option (γ × β)) : List α → β → Option (List γ × β)
  | [], b => some ([], b)
  | t :: r, b => (g t b).bind fun q => (thr g r q.2).map fun s => (q.1 :: s.1, s.2)
/-- a comprehension whose turns change the store: by what each turn tells; I: what stays true -/
theorem compD_thr {α β γ : Type} {f : D → St → Out (List D)} {F : α → D} {G : β → St} {V : γ → D} {g : α → β → Option (γ × β)} {I : β → Prop} : ∀ {ts : List α} {b b' : β} {rs : List γ},
    (∀ t ∈ ts, ∀ b r b', I b → g t b = some (r, b') → I b' ∧ f (F t) (G b) = .ok [V r] (G b')) → I b → thr g ts b = some (rs, b') → I b' ∧ compD [] f (ts.map F) (G b) = .ok (rs.map V) (G b')
  | [], b, b', rs, _, i, h => by
    simp only [thr, Option.some.injEq, Prod.mk.injEq] at h
    obtain ⟨e1, e2⟩ := h
    subst e1 e2
    exact ⟨i, by simp [compD, okG]⟩
  | t :: r, b, b', rs, hf, i, h => by
    simp only [thr] at h
    obtain ⟨q, e1, h⟩ := Option.bind_eq_some_iff.mp h
    obtain ⟨s, e2, h⟩ := Option.map_eq_some_iff.mp h
    simp only [Prod.mk.injEq] at h
    obtain ⟨e3, e4⟩ := h
    subst e3 e4
    obtain ⟨i1, h1⟩ := hf t (by simp) b q.1 q.2 i e1
    obtain ⟨i2, h2⟩ := compD_thr (fun t ht => hf t (List.mem_cons_of_mem _ ht)) i1 e2
    exact ⟨i2, by simp [compD, okG, h1, h2]⟩
end Hd
end
section
set_option linter.all false
set_option maxRecDepth 10000
namespace Hd
open ML
/-- the solution of bindings -/
def sol (b : Bd) : Sg → Tm := b.foldl (fun σ p => fun y => (σ y).sub (one p.1 (p.2.sub σ))) Tm.nm
theorem sol_snoc {b : Bd} {x : Sg} {t : Tm} : sol (b ++ [(x, t)]) = fun y => (sol b y).sub (one x (t.sub (sol b))) := by
  unfold sol
  rw [List.foldl_append]
  rfl
/-- what stands behind a thing -/
def wlk (b : Bd) (t : Tm) : Tm := walk b (b.length + 1) t
theorem walk_of {b : Bd} {m : Nat} {t u : Tm} (w : Wk b m t u) : ∀ {k : Nat}, m < k → walk b k t = u := by
  induction w with
  | mk w ts => intro k hk; cases k <;> simp [walk]
  | nm h => intro k hk; cases k with
    | zero => omega
    | succ k => simp [walk, h]
  | st h r ih => intro k hk; cases k with
    | zero => omega
    | succ k => simp [walk, h, ih (show _ < k by omega)]
theorem wlk_wk {b : Bd} (ok : BOk b) (t : Tm) : ∃ m, Wk b m t (wlk b t) ∧ m ≤ b.length := by
  obtain ⟨m, u, w, hm⟩ := walk_ex ok t
  exact ⟨m, by unfold wlk; rw [walk_of w (by omega)]; exact w, hm⟩
/-- the going of common: all parts, whatever they say -/
def uni : Nat → Bd → Tm → Tm → Option (Bool × Bd)
  | 0, _, _, _ => none
  | k + 1, b, t, u => if wlk b t = wlk b u then some (true, b) else match wlk b t, wlk b u with
    | .nm x, g => if (g.sub (sol b)).occ x then some (false, b) else some (true, b ++ [(x, g)])
    | .mk w ts, .nm x => if ((Tm.mk w ts).sub (sol b)).occ x then some (false, b) else some (true, b ++ [(x, .mk w ts)])
    | .mk w ts, .mk v us => if v = w ∧ us.length = ts.length then (thr (fun (p : Tm × Tm) b => uni k b p.1 p.2) (us.zip ts) b).map fun p => (p.1.all id, p.2) else some (false, b)
/-- what the bindings keep: the things within Sub, no deeper than N when solved -/
structure Lim (Sub : Tm → Prop) (N : Nat) : Prop where
  part : ∀ w ts, Sub (.mk w ts) → ∀ t ∈ ts, Sub t
  sh : ∀ t, Sub t → t.sh 1000
  dep : ∀ t, Sub t → t.dep ≤ 20
structure BIn (Sub : Tm → Prop) (N : Nat) (b : Bd) : Prop where
  ok : BOk b
  sol : Sol b (sol b)
  ran : ∀ x t, b.lookup x = some t → Sub t
  len : b.length < 1000
  dep : ∀ t, Sub t → (t.sub (Hd.sol b)).dep < N
  dom : ∀ x t, b.lookup x = some t → Sub (.nm x)
end Hd
namespace Hd
open ML
theorem walk_sub {Sub : Tm → Prop} {b : Bd} (ran : ∀ x t, b.lookup x = some t → Sub t) {m : Nat} {t u : Tm} (w : Wk b m t u) (h : Sub t) : Sub u := by
  induction w with
  | mk _ _ => exact h
  | nm _ => exact h
  | st hs r ih => exact ih (ran _ _ hs)
theorem put_O {b : Bd} {x : Sg} {t : Tm} (h : b.lookup x = none) : putD (b.map fun p => (D.str p.1, p.2.D)) (.str x) t.D = (b ++ [(x, t)]).map fun p => (D.str p.1, p.2.D) := by
  induction b with
  | nil => rfl
  | cons p r ih =>
    obtain ⟨k, v⟩ := p
    have hk : k ≠ x := fun e => by subst e; simp [List.lookup] at h
    have h2 : (x == k) = false := by simpa using fun e => hk (Eq.symm e)
    simp only [List.lookup, h2] at h
    simp [putD, hk, ih h]
section
variable {S : St} {x w : Sg} {ts : List Tm} {a b : Sg}
theorem i_nm0 : idxD (Tm.nm x).D (.int 0) S = .ok (.str sName) S := by simp [Tm.D, idxD, atI, ixN, okO]
theorem i_nm1 : idxD (Tm.nm x).D (.int 1) S = .ok (.str x) S := by simp [Tm.D, idxD, atI, ixN, okO]
theorem i_mk0 : idxD (Tm.mk w ts).D (.int 0) S = .ok (.str sMade) S := by simp [Tm.D, idxD, atI, ixN, okO]
theorem i_mk1 : idxD (Tm.mk w ts).D (.int 1) S = .ok (.str w) S := by simp [Tm.D, idxD, atI, ixN, okO]
theorem i_mk2 : idxD (Tm.mk w ts).D (.int 2) S = .ok (.tup (Tm.Ds ts)) S := by simp [Tm.D, idxD, atI, ixN, okO]
theorem c_str : (D.str a).cmpOk = true := by simp [D.cmpOk, D.und, D.noR, D.depth]
theorem c_int {i : Int} : (D.int i).cmpOk = true := by simp [D.cmpOk, D.und, D.noR, D.depth]
theorem e_str : D.eqp (.str a) (.str b) = (a == b) := by simp [D.eqp]
theorem e_int {i j : Int} : D.eqp (.int i) (.int j) = (i == j) := by simp [D.eqp]
end
section
variable {W : Nat} {Sub : Tm → Prop} {N : Nat}
theorem bools_bl : ∀ rs : List Bool, bools (rs.map D.bl) = some rs
  | [] => rfl
  | r :: rs => by simp [bools, bools_bl rs]
theorem call_joined (L : Lim Sub N) (hW : 1000 ≤ W) (inv : ∀ {k b t u r b'}, uni k b t u = some (r, b') → BIn Sub N b → Sub t → Sub u → BIn Sub N b') {l : Nat} {S : St} (hl : l < S.length) : ∀ {k : Nat} {b b' : Bd} {t u : Tm} {r : Bool}, BIn Sub N b → Sub t → Sub u →
    uni k b t u = some (r, b') → ∀ {n : Nat}, k + N + 2 ≤ n → call TT W (n + 1) 7 [t.D, u.D, .loc l] (S.set l b.O) = .ok (.bl r) (S.set l b'.O)
  | 0, b, b', t, u, r, B, ht, hu, hr, n, hn => by simp [uni] at hr
  | k + 1, b, b', t, u, r, B, ht, hu, hr, n, hn => by
    have hl' : (S.set l b.O)[l]? = some b.O := by simp [hl]
    obtain ⟨m1, w1, hm1⟩ := wlk_wk B.ok t
    obtain ⟨m2, w2, hm2⟩ := wlk_wk B.ok u
    have hb := B.len
    obtain ⟨n', rfl⟩ : ∃ n', n = n' + 1 := ⟨n - 1, by omega⟩
    have IH := fun {b b' t u r} => call_joined L hW inv hl (k := k) (b := b) (b' := b') (t := t) (u := u) (r := r)
    have k1 := call_known (W := W) hl' w1 (by omega) n'
    have k2 := call_known (W := W) hl' w2 (by omega) n'
    have s1 := walk_sub B.ran w1 ht
    have s2 := walk_sub B.ran w2 hu
    have c1 := Tm.cmp (L.dep _ s1)
    have c2 := Tm.cmp (L.dep _ s2)
    have e1 := w1.end
    have e2 := w2.end
    have d1 := B.dep _ s1
    have d2 := B.dep _ s2
    show runFn TT W (call TT W (n' + 1)) f_joined _ _ = _
    unfold f_joined
    unfold uni at hr
    generalize hh : wlk b t = h at *
    generalize hg : wlk b u = g at *
    by_cases heq : h = g
    · rw [if_pos heq] at hr
      cases hr
      subst heq
      simp [runFn, exSs, exS, evE, evEs, asgT, asgTs, itemsOf, k1, k2, cmpD, c1, Tm.eqp_dec, asBool, gc_self]
    · rw [if_neg heq] at hr
      have heq' : ¬ g = h := fun e => heq e.symm
      have q1 : D.eqp h.D g.D = false := by rw [Tm.eqp_dec, decide_eq_false heq]
      have q2 : D.eqp g.D h.D = false := by rw [Tm.eqp_dec, decide_eq_false heq']
      cases h with
      | nm x =>
        have ex := e1 x rfl
        have st := call_stands (W := W) hl' B.ok B.sol (by omega) x N n' g d2 (by omega)
        dsimp only at hr
        have hbl : b.length < lim := by unfold lim; omega
        cases ho : (g.sub (sol b)).occ x with
        | true =>
          rw [ho] at hr st
          cases hr
          simp [runFn, exSs, exS, evE, evEs, asgT, asgTs, itemsOf, k1, k2, cmpD, c1, c2, q1, asBool, gc_self, i_nm0, i_nm1, c_str, e_str, st, sName]
        | false =>
          rw [ho] at hr st
          cases hr
          have po := put_O (t := g) ex
          have hs : setIx (.loc l) (.str x) g.D (S.set l b.O) = .ok () (S.set l (Bd.O (b ++ [(x, g)]))) := by
            unfold setIx
            simp only [hl']
            unfold Bd.O
            simp [keyOk, hbl, po]
          simp [runFn, exSs, exS, evE, evEs, asgT, asgTs, itemsOf, k1, k2, cmpD, c1, c2, q1, asBool, i_nm0, i_nm1, c_str, e_str, st, sName, hs, gc_len]
      | mk w ts =>
        cases g with
        | nm x =>
          have ex := e2 x rfl
          have st := call_stands (W := W) hl' B.ok B.sol (by omega) x N n' (.mk w ts) d1 (by omega)
          dsimp only at hr
          have hbl : b.length < lim := by unfold lim; omega
          cases ho : ((Tm.mk w ts).sub (sol b)).occ x with
          | true =>
            rw [ho] at hr st
            cases hr
            simp [runFn, exSs, exS, evE, evEs, asgT, asgTs, itemsOf, k1, k2, cmpD, c1, c2, q1, asBool, gc_self, i_nm0, i_nm1, i_mk0, c_str, e_str, st, sName, sMade]
          | false =>
            rw [ho] at hr st
            cases hr
            have po := put_O (t := .mk w ts) ex
            have hs : setIx (.loc l) (.str x) (Tm.mk w ts).D (S.set l b.O) = .ok () (S.set l (Bd.O (b ++ [(x, .mk w ts)]))) := by
              unfold setIx
              simp only [hl']
              unfold Bd.O
              simp [keyOk, hbl, po]
            simp [runFn, exSs, exS, evE, evEs, asgT, asgTs, itemsOf, k1, k2, cmpD, c1, c2, q1, asBool, i_nm0, i_nm1, i_mk0, c_str, e_str, st, sName, sMade, hs, gc_len]
        | mk v us =>
          dsimp only at hr
          by_cases hc : v = w ∧ us.length = ts.length
          · rw [if_pos hc] at hr
            obtain ⟨hw, hlen⟩ := hc
            subst hw
            obtain ⟨p, hp, e⟩ := Option.map_eq_some_iff.mp hr
            have hl2 : (Tm.Ds us).length = (Tm.Ds ts).length := by rw [Tm.Ds_map, Tm.Ds_map, List.length_map, List.length_map]; exact hlen
            simp [runFn, exSs, exS, evE, evEs, asgT, asgTs, itemsOf, k1, k2, cmpD, c1, c2, q1, asBool, i_mk0, i_mk1, i_mk2, c_str, e_str, c_int, e_int, sName, sMade, bltD, hl2, evL, evIt, okG, lbD]
            have hz : ((Tm.Ds us).zip (Tm.Ds ts)).map (fun r => D.tup [r.1, r.2]) = (us.zip ts).map fun r => D.tup [r.1.D, r.2.D] := by
              rw [Tm.Ds_map, Tm.Ds_map, List.zip_map, List.map_map]
              rfl
            rw [hz]
            have key : ∀ f : D → St → Out (List D), (∀ q ∈ us.zip ts, ∀ b r b', BIn Sub N b → uni k b q.1 q.2 = some (r, b') → f (D.tup [q.1.D, q.2.D]) (S.set l b.O) = .ok [D.bl r] (S.set l b'.O)) →
                compD [] f ((us.zip ts).map fun r => D.tup [r.1.D, r.2.D]) (S.set l b.O) = .ok (p.1.map D.bl) (S.set l p.2.O) := fun f hf =>
              (compD_thr (F := fun r : Tm × Tm => D.tup [r.1.D, r.2.D]) (G := fun b : Bd => S.set l b.O) (V := D.bl) (I := BIn Sub N) (fun q hq b r b' i hg =>
                ⟨inv hg i (L.part _ _ s2 _ (List.of_mem_zip hq).1) (L.part _ _ s1 _ (List.of_mem_zip hq).2), hf q hq b r b' i hg⟩) B hp).2
            rw [key _ fun q hq b2 r2 b3 i hg => ?_]
            · simp only [Prod.mk.injEq] at e
              obtain ⟨e1, e2⟩ := e
              subst e1 e2
              simp [bools_bl, gc_len, okO]
            · have c7 := IH i (L.part _ _ s2 _ (List.of_mem_zip hq).1) (L.part _ _ s1 _ (List.of_mem_zip hq).2) hg (n := n') (by omega)
              simp [evC, wipe, evE, evEs, c7]
          · rw [if_neg hc] at hr
            cases hr
            have hl2 : v = w → ¬ (((Tm.Ds us).length : Nat) : Int) = (((Tm.Ds ts).length : Nat) : Int) := fun e => by
              rw [Int.natCast_inj]
              revert e
              intro e
              rw [Tm.Ds_map, Tm.Ds_map, List.length_map, List.length_map]; exact fun z => hc ⟨e, z⟩
            by_cases hw : v = w
            · have h3 := hl2 hw
              subst hw
              simp [runFn, exSs, exS, evE, evEs, asgT, asgTs, itemsOf, k1, k2, cmpD, c1, c2, q1, asBool, i_mk0, i_mk1, i_mk2, c_str, e_str, c_int, e_int, sName, sMade, bltD, h3, gc_self]
            · simp [runFn, exSs, exS, evE, evEs, asgT, asgTs, itemsOf, k1, k2, cmpD, c1, c2, q1, asBool, i_mk0, i_mk1, i_mk2, c_str, e_str, c_int, e_int, sName, sMade, bltD, hw, gc_self]
end
end Hd
end
section
set_option linter.all false
namespace Hd
open ML
/-- θ makes each name what it is bound to -/
def Un (b : Bd) (θ : Sg → Tm) : Prop := ∀ x t, b.lookup x = some t → θ x = t.sub θ
theorem Wk.un {b : Bd} {θ : Sg → Tm} (s : Un b θ) {m : Nat} {t u : Tm} (w : Wk b m t u) : u.sub θ = t.sub θ := by
  induction w with
  | mk _ _ => rfl
  | nm _ => rfl
  | st h r ih => rename_i x t u n; rw [ih, ← s x t h]; simp [Tm.sub]
theorem un_snoc {b : Bd} {x : Sg} {t : Tm} {θ : Sg → Tm} (hx : b.lookup x = none) : Un (b ++ [(x, t)]) θ ↔ Un b θ ∧ θ x = t.sub θ := by
  constructor
  · intro h
    refine ⟨fun y u hy => h y u (by rw [look_snoc, hy]; rfl), h x t (by rw [look_snoc, hx]; simp)⟩
  · rintro ⟨h1, h2⟩ y u hy
    rw [look_snoc] at hy
    cases hb : b.lookup y with
    | some v =>
      rw [hb] at hy
      have e : v = u := by simpa using hy
      subst e
      exact h1 y v hb
    | none =>
      rw [hb] at hy
      by_cases e : y = x
      · subst e
        simp at hy
        subst hy
        exact h2
      · simp [e] at hy
theorem sub_ext {f g : Sg → Tm} (t : Tm) (h : ∀ x, t.occ x = true → f x = g x) : t.sub f = t.sub g := by
  induction t using Tm.ind with
  | hn x => simpa [Tm.sub] using h x (by simp [Tm.occ])
  | hm w ts ih =>
    simp only [Tm.sub, Tm.subs_map]
    congr 1
    refine List.map_congr_left fun t ht => ih t ht fun x hx => h x ?_
    simp only [Tm.occ, Tm.occs_any, List.any_eq_true]
    exact ⟨t, ht, hx⟩
theorem sol_un {b : Bd} (ok : BOk b) {θ : Sg → Tm} (h : Un b θ) : ∀ t : Tm, (t.sub (sol b)).sub θ = t.sub θ := by
  induction ok with
  | nil =>
    intro t
    rw [sub_sub]
    rfl
  | snoc ok hx ht ih =>
    rename_i b x t0
    obtain ⟨h1, h2⟩ := (un_snoc hx).mp h
    have ih := ih h1
    intro t
    rw [sol_snoc, ← sub_sub, sub_sub (g := θ)]
    have e : (fun z => (one x (t0.sub (sol b)) z).sub θ) = θ := by
      funext z
      unfold one
      by_cases hz : z = x
      · subst hz
        rw [if_pos rfl, ih t0, h2]
      · rw [if_neg hz]
        simp [Tm.sub]
    rw [e]
    exact ih t
mutual
def Tm.sz : Tm → Nat
  | .nm _ => 1
  | .mk _ ts => Tm.szs ts + 1
def Tm.szs : List Tm → Nat
  | [] => 0
  | t :: ts => t.sz + Tm.szs ts
end
theorem sz_mem {ts : List Tm} {t : Tm} (h : t ∈ ts) : t.sz ≤ Tm.szs ts := by
  induction ts with
  | nil => cases h
  | cons a r ih =>
    rcases List.mem_cons.mp h with e | e
    · subst e; simp [Tm.szs]
    · have := ih e; simp [Tm.szs]; omega
theorem sz_occ {x : Sg} {θ : Sg → Tm} (t : Tm) (h : t.occ x = true) : (θ x).sz ≤ (t.sub θ).sz := by
  induction t using Tm.ind with
  | hn y =>
    simp only [Tm.occ, beq_iff_eq] at h
    subst h
    simp [Tm.sub]
  | hm w ts ih =>
    simp only [Tm.occ, Tm.occs_any, List.any_eq_true] at h
    obtain ⟨t, ht, hx⟩ := h
    have h1 := ih t ht hx
    have h2 := sz_mem (ts := Tm.subs θ ts) (t := t.sub θ) (by rw [Tm.subs_map]; exact List.mem_map_of_mem ht)
    simp only [Tm.sub, Tm.sz]
    omega
end Hd
end
section
set_option linter.all false
namespace Hd
open ML
/-- what a going's answer means -/
structure Ans (b : Bd) (P : (Sg → Tm) → Prop) (r : Bool) (b' : Bd) : Prop where
  back : ∀ θ, Un b' θ → Un b θ
  sound : r = true → ∀ θ, Un b' θ → P θ
  full : ∀ θ, Un b θ → P θ → r = true ∧ Un b' θ
theorem zip_sub {θ : Sg → Tm} : ∀ (us ts : List Tm), us.length = ts.length → ((∀ p ∈ us.zip ts, p.1.sub θ = p.2.sub θ) ↔ ts.map (Tm.sub θ) = us.map (Tm.sub θ))
  | [], [], _ => by simp
  | [], _ :: _, h => by simp at h
  | _ :: _, [], h => by simp at h
  | a :: r, a' :: r', h => by
    have := zip_sub (θ := θ) r r' (by simpa using h)
    simp only [List.zip_cons_cons, List.mem_cons, forall_eq_or_imp, List.map_cons, List.cons.injEq]
    exact ⟨fun h => ⟨h.1.symm, this.mp h.2⟩, fun h => ⟨h.1.symm, this.mpr h.2⟩⟩
section
variable {Sub : Tm → Prop} {N : Nat}
theorem thr_ans {k : Nat} (inv : ∀ {b t u r b'}, uni k b t u = some (r, b') → BIn Sub N b → Sub t → Sub u → BIn Sub N b')
    (ih : ∀ {b t u r b'}, uni k b t u = some (r, b') → BIn Sub N b → Sub t → Sub u → Ans b (fun θ => t.sub θ = u.sub θ) r b') : ∀ {l : List (Tm × Tm)} {b b' : Bd} {rs : List Bool},
    thr (fun (p : Tm × Tm) b => uni k b p.1 p.2) l b = some (rs, b') → BIn Sub N b → (∀ p ∈ l, Sub p.1 ∧ Sub p.2) → Ans b (fun θ => ∀ p ∈ l, p.1.sub θ = p.2.sub θ) (rs.all id) b'
  | [], b, b', rs, h, _, _ => by
    simp only [thr, Option.some.injEq, Prod.mk.injEq] at h
    obtain ⟨e1, e2⟩ := h
    subst e1 e2
    exact ⟨fun _ h => h, (fun _ _ _ _ z => nomatch z), fun _ h _ => ⟨rfl, h⟩⟩
  | p :: l, b, b', rs, h, B, hs => by
    simp only [thr] at h
    obtain ⟨q, e1, h⟩ := Option.bind_eq_some_iff.mp h
    obtain ⟨s, e2, h⟩ := Option.map_eq_some_iff.mp h
    simp only [Prod.mk.injEq] at h
    obtain ⟨e3, e4⟩ := h
    subst e3 e4
    obtain ⟨p1, p2⟩ := hs p (by simp)
    have A1 := ih e1 B p1 p2
    have A2 := thr_ans inv ih e2 (inv e1 B p1 p2) fun p hp => hs p (List.mem_cons_of_mem _ hp)
    refine ⟨fun θ h => A1.back θ (A2.back θ h), fun hr θ h => ?_, fun θ h hp => ?_⟩
    · simp only [List.all_cons, Bool.and_eq_true, id_eq] at hr
      intro z hz
      rcases List.mem_cons.mp hz with e | e
      · rw [e]; exact A1.sound hr.1 θ (A2.back θ h)
      · exact A2.sound hr.2 θ h z e
    · obtain ⟨r1, u1⟩ := A1.full θ h (hp p (by simp))
      obtain ⟨r2, u2⟩ := A2.full θ u1 fun z hz => hp z (List.mem_cons_of_mem _ hz)
      exact ⟨by simp [r1, r2], u2⟩
theorem no_occ {b : Bd} (ok : BOk b) {x : Sg} {w : Sg} {ts : List Tm} (h : ((Tm.mk w ts).sub (sol b)).occ x = true) {θ : Sg → Tm} (hu : Un b θ) : θ x ≠ (Tm.mk w ts).sub θ := by
  intro e
  have e1 := sol_un ok hu (.mk w ts)
  simp only [Tm.sub, Tm.occ, Tm.occs_any, List.any_eq_true] at h
  obtain ⟨t, ht, hx⟩ := h
  have h1 := sz_occ (θ := θ) t hx
  have h2 := sz_mem (ts := Tm.subs θ (Tm.subs (sol b) ts)) (t := t.sub θ) (by rw [Tm.subs_map]; exact List.mem_map_of_mem ht)
  rw [e, ← e1] at h1
  simp only [Tm.sub, Tm.sz] at h1
  omega
theorem uni_ans (inv : ∀ {k b t u r b'}, uni k b t u = some (r, b') → BIn Sub N b → Sub t → Sub u → BIn Sub N b') (L : Lim Sub N) : ∀ {k : Nat} {b : Bd} {t u : Tm} {r : Bool} {b' : Bd}, uni k b t u = some (r, b') → BIn Sub N b → Sub t → Sub u → Ans b (fun θ => t.sub θ = u.sub θ) r b'
  | 0, _, _, _, _, _, h, _, _, _ => by simp [uni] at h
  | k + 1, b, t, u, r, b', hr, B, ht, hu => by
    obtain ⟨m1, w1, hm1⟩ := wlk_wk B.ok t
    obtain ⟨m2, w2, hm2⟩ := wlk_wk B.ok u
    have s1 := walk_sub B.ran w1 ht
    have s2 := walk_sub B.ran w2 hu
    have e1 := w1.end
    have e2 := w2.end
    unfold uni at hr
    generalize wlk b t = h at *
    generalize wlk b u = g at *
    have key : Ans b (fun θ => h.sub θ = g.sub θ) r b' → Ans b (fun θ => t.sub θ = u.sub θ) r b' := fun A =>
      ⟨A.back, fun hr θ hθ => by
        have := A.sound hr θ hθ
        rw [w1.un (A.back θ hθ), w2.un (A.back θ hθ)] at this
        exact this, fun θ hθ e => A.full θ hθ (by rw [w1.un hθ, w2.un hθ]; exact e)⟩
    apply key
    have bnd : ∀ x s, b.lookup x = none → Ans b (fun θ => (Tm.nm x).sub θ = s.sub θ) true (b ++ [(x, s)]) := fun x s hx =>
      ⟨fun θ h => ((un_snoc hx).mp h).1, fun _ θ h => by simpa [Tm.sub] using ((un_snoc hx).mp h).2, fun θ h e => ⟨rfl, (un_snoc hx).mpr ⟨h, by simpa [Tm.sub] using e⟩⟩⟩
    have sym : ∀ {s s' : Tm} {r b'}, Ans b (fun θ => s.sub θ = s'.sub θ) r b' → Ans b (fun θ => s'.sub θ = s.sub θ) r b' := fun A => ⟨A.back, fun hr θ h => (A.sound hr θ h).symm, fun θ h e => A.full θ h e.symm⟩
    by_cases heq : h = g
    · rw [if_pos heq] at hr
      cases hr
      subst heq
      exact ⟨fun _ h => h, fun _ _ _ => rfl, fun _ h _ => ⟨rfl, h⟩⟩
    · rw [if_neg heq] at hr
      cases h with
      | nm x =>
        have hx := e1 x rfl
        dsimp only at hr
        split at hr
        · rename_i ho
          cases hr
          refine ⟨fun _ h => h, (fun z => nomatch z), fun θ h e => ?_⟩
          cases g with
          | nm z =>
            have hz := B.sol.fr z (e2 z rfl)
            simp only [Tm.sub, hz, Tm.occ, beq_iff_eq] at ho
            exact absurd (by rw [ho]) heq
          | mk w ts => exact absurd (by simpa [Tm.sub] using e) (no_occ B.ok ho h)
        · cases hr
          exact bnd x g hx
      | mk w ts =>
        cases g with
        | nm x =>
          have hx := e2 x rfl
          dsimp only at hr
          split at hr
          · rename_i ho
            cases hr
            exact ⟨fun _ h => h, (fun z => nomatch z), fun θ h e => absurd (by simpa [Tm.sub] using e.symm) (no_occ B.ok ho h)⟩
          · cases hr
            exact sym (bnd x _ hx)
        | mk v us =>
          dsimp only at hr
          split at hr
          · rename_i hc
            obtain ⟨hw, hlen⟩ := hc
            subst hw
            obtain ⟨p, hp, e⟩ := Option.map_eq_some_iff.mp hr
            simp only [Prod.mk.injEq] at e
            obtain ⟨e3, e4⟩ := e
            subst e3 e4
            have A := thr_ans inv (uni_ans inv L) hp B fun q hq => ⟨L.part _ _ s2 _ (List.of_mem_zip hq).1, L.part _ _ s1 _ (List.of_mem_zip hq).2⟩
            have eqv : ∀ θ : Sg → Tm, (∀ p ∈ us.zip ts, p.1.sub θ = p.2.sub θ) ↔ (Tm.mk v ts).sub θ = (Tm.mk v us).sub θ := fun θ => by
              simp only [Tm.sub, Tm.subs_map, Tm.mk.injEq, true_and]
              exact zip_sub us ts hlen
            exact ⟨A.back, fun hr θ h => (eqv θ).mp (A.sound hr θ h), fun θ h e => A.full θ h ((eqv θ).mpr e)⟩
          · rename_i hc
            cases hr
            refine ⟨fun _ h => h, (fun z => nomatch z), fun θ h e => absurd ?_ hc⟩
            simp only [Tm.sub, Tm.mk.injEq, Tm.subs_map] at e
            exact ⟨e.1.symm, by have := congrArg List.length e.2; simpa using this.symm⟩
end
end Hd
end
section
set_option linter.all false
namespace Hd
open ML
/-- what a going keeps, whatever its sizes -/
structure BI0 (Sub : Tm → Prop) (b : Bd) : Prop where
  ok : BOk b
  sol : Sol b (sol b)
  ran : ∀ x t, b.lookup x = some t → Sub t
  dom : ∀ x t, b.lookup x = some t → Sub (.nm x)
section
variable {Sub : Tm → Prop}
theorem BI0.snoc {b : Bd} (B : BI0 Sub b) {x : Sg} {g : Tm} (hx : b.lookup x = none) (hg : Sub g) (hs : Sub (.nm x)) (hne : ∀ y, g = .nm y → b.lookup y = none ∧ y ≠ x) (ho : (g.sub (Hd.sol b)).occ x = false) : BI0 Sub (b ++ [(x, g)]) := by
  refine ⟨.snoc B.ok hx hne, by rw [sol_snoc]; exact B.sol.snoc hx ho, fun y t h => ?_, fun y t h => ?_⟩
  · rw [look_snoc] at h
    cases hb : b.lookup y with
    | some v => rw [hb] at h; exact B.ran y t (by rw [hb]; simpa using h)
    | none =>
      rw [hb] at h
      by_cases e : y = x
      · simp [e] at h; rw [← h]; exact hg
      · simp [e] at h
  · rw [look_snoc] at h
    cases hb : b.lookup y with
    | some v => rw [hb] at h; exact B.dom y t (by rw [hb]; simpa using h)
    | none =>
      rw [hb] at h
      by_cases e : y = x
      · rw [e]; exact hs
      · simp [e] at h
theorem thr_keep {k : Nat} (ih : ∀ {b t u r b'}, uni k b t u = some (r, b') → BI0 Sub b → Sub t → Sub u → BI0 Sub b') : ∀ {l : List (Tm × Tm)} {b b' : Bd} {rs : List Bool},
    thr (fun (p : Tm × Tm) b => uni k b p.1 p.2) l b = some (rs, b') → BI0 Sub b → (∀ p ∈ l, Sub p.1 ∧ Sub p.2) → BI0 Sub b'
  | [], b, b', rs, h, B, _ => by
    simp only [thr, Option.some.injEq, Prod.mk.injEq] at h
    rw [← h.2]; exact B
  | p :: l, b, b', rs, h, B, hs => by
    simp only [thr] at h
    obtain ⟨q, e1, h⟩ := Option.bind_eq_some_iff.mp h
    obtain ⟨s, e2, h⟩ := Option.map_eq_some_iff.mp h
    simp only [Prod.mk.injEq] at h
    rw [← h.2]
    exact thr_keep ih e2 (ih e1 B (hs p (by simp)).1 (hs p (by simp)).2) fun p hp => hs p (List.mem_cons_of_mem _ hp)
theorem uni_keep (part : ∀ w ts, Sub (.mk w ts) → ∀ t ∈ ts, Sub t) : ∀ {k : Nat} {b : Bd} {t u : Tm} {r : Bool} {b' : Bd}, uni k b t u = some (r, b') → BI0 Sub b → Sub t → Sub u → BI0 Sub b'
  | 0, _, _, _, _, _, h, _, _, _ => by simp [uni] at h
  | k + 1, b, t, u, r, b', hr, B, ht, hu => by
    obtain ⟨m1, w1, hm1⟩ := wlk_wk B.ok t
    obtain ⟨m2, w2, hm2⟩ := wlk_wk B.ok u
    have s1 := walk_sub B.ran w1 ht
    have s2 := walk_sub B.ran w2 hu
    have e1 := w1.end
    have e2 := w2.end
    unfold uni at hr
    generalize wlk b t = h at *
    generalize wlk b u = g at *
    by_cases heq : h = g
    · rw [if_pos heq] at hr
      cases hr
      exact B
    · rw [if_neg heq] at hr
      cases h with
      | nm x =>
        dsimp only at hr
        split at hr
        · cases hr; exact B
        · rename_i ho
          cases hr
          exact B.snoc (e1 x rfl) s2 s1 (fun y e => ⟨e2 y e, fun z => heq (by rw [e, z])⟩) (by simpa using ho)
      | mk w ts =>
        cases g with
        | nm x =>
          dsimp only at hr
          split at hr
          · cases hr; exact B
          · rename_i ho
            cases hr
            exact B.snoc (e2 x rfl) s1 s2 (fun y e => by cases e) (by simpa using ho)
        | mk v us =>
          dsimp only at hr
          split at hr
          · obtain ⟨p, hp, e⟩ := Option.map_eq_some_iff.mp hr
            simp only [Prod.mk.injEq] at e
            rw [← e.2]
            exact thr_keep (uni_keep part) hp B fun q hq => ⟨part _ _ s2 _ (List.of_mem_zip hq).1, part _ _ s1 _ (List.of_mem_zip hq).2⟩
          · cases hr; exact B
end
end Hd
end
section
set_option linter.all false
namespace Hd
open ML
theorem pigeon : ∀ (l m : List Nat), l.Nodup → (∀ a ∈ l, a ∈ m) → l.length ≤ m.length
  | [], m, _, _ => by simp
  | a :: r, m, nd, h => by
    have ha := h a (by simp)
    rw [List.nodup_cons] at nd
    have h2 := pigeon r (m.erase a) nd.2 fun b hb => by
      have ne : b ≠ a := fun e => nd.1 (by rw [← e]; exact hb)
      exact (List.mem_erase_of_ne ne).mpr (h b (List.mem_cons_of_mem _ hb))
    rw [List.length_erase_of_mem ha] at h2
    have : 0 < m.length := List.length_pos_of_mem ha
    simp only [List.length_cons]
    omega
theorem deps_ex : ∀ {ts : List Tm}, ts ≠ [] → ∃ t ∈ ts, t.dep = Tm.deps ts
  | [], h => absurd rfl h
  | [t], _ => ⟨t, by simp, by simp [Tm.deps]⟩
  | t :: u :: r, _ => by
    obtain ⟨s, hs, e⟩ := deps_ex (ts := u :: r) (by simp)
    by_cases h : Tm.deps (u :: r) ≤ t.dep
    · exact ⟨t, by simp, by simp only [Tm.deps] at h ⊢; omega⟩
    · exact ⟨s, List.mem_cons_of_mem _ hs, by rw [e]; simp only [Tm.deps] at h ⊢; omega⟩
section
variable {Sub : Tm → Prop} {b : Bd} {U : List Tm}
theorem dep_all (B : BI0 Sub b) (part : ∀ w ts, Sub (.mk w ts) → ∀ t ∈ ts, Sub t) (hU : ∀ w ts, Sub (.mk w ts) → ts ≠ [] → .mk w ts ∈ U) : ∀ (n : Nat) (t : Tm), Sub t → (t.sub (sol b)).dep = n → ∀ d, 2 ≤ d → d ≤ n → d ∈ U.map fun s => (s.sub (sol b)).dep := by
  intro n
  induction n using Nat.strongRecOn with
  | ind n ih =>
    intro t ht hn d h2 hd
    obtain ⟨m, w, _⟩ := wlk_wk B.ok t
    have s := walk_sub B.ran w ht
    have e := w.sub B.sol
    have en := w.end
    generalize wlk b t = g at *
    rw [← e] at hn
    cases g with
    | nm x =>
      simp only [Tm.sub, B.sol.fr x (en x rfl), Tm.dep] at hn
      omega
    | mk w' ts =>
      simp only [Tm.sub, Tm.dep] at hn
      have hne : ts ≠ [] := fun z => by subst z; simp [Tm.subs, Tm.deps] at hn; omega
      by_cases hdn : d = n
      · exact List.mem_map.mpr ⟨_, hU w' ts s hne, by simp only [Tm.sub, Tm.dep]; omega⟩
      · obtain ⟨v, hv, ev⟩ := deps_ex (ts := Tm.subs (sol b) ts) (by rw [Tm.subs_map]; simpa using hne)
        rw [Tm.subs_map] at hv
        obtain ⟨t', ht', et⟩ := List.mem_map.mp hv
        exact ih v.dep (by omega) t' (part _ _ s t' ht') (by rw [et]) d h2 (by omega)
/-- no deeper than there are mades with parts -/
theorem dep_bound (B : BI0 Sub b) (part : ∀ w ts, Sub (.mk w ts) → ∀ t ∈ ts, Sub t) (hU : ∀ w ts, Sub (.mk w ts) → ts ≠ [] → .mk w ts ∈ U) {t : Tm} (ht : Sub t) : (t.sub (sol b)).dep ≤ U.length + 1 := by
  have h := pigeon (List.range' 2 ((t.sub (sol b)).dep - 1)) (U.map fun s => (s.sub (sol b)).dep) (List.nodup_range' ..) fun d hd => by
    rw [List.mem_range'_1] at hd
    exact dep_all B part hU _ t ht rfl d hd.1 (by omega)
  simp only [List.length_range', List.length_map] at h
  omega
end
end Hd
end
section
set_option linter.all false
namespace Hd
open ML
theorem thr_mono {α β γ : Type} {g g' : α → β → Option (γ × β)} : ∀ {l : List α} {b : β} {x : List γ × β}, (∀ t ∈ l, ∀ b y, g t b = some y → g' t b = some y) → thr g l b = some x → thr g' l b = some x
  | [], b, x, _, h => h
  | t :: r, b, x, hg, h => by
    simp only [thr] at h ⊢
    obtain ⟨q, e1, h⟩ := Option.bind_eq_some_iff.mp h
    obtain ⟨s, e2, h⟩ := Option.map_eq_some_iff.mp h
    rw [hg t (by simp) b q e1]
    simp only [Option.bind_some]
    rw [thr_mono (fun t ht => hg t (List.mem_cons_of_mem _ ht)) e2]
    simp [h]
theorem uni_mono : ∀ {k : Nat} {b : Bd} {t u : Tm} {x : Bool × Bd}, uni k b t u = some x → uni (k + 1) b t u = some x
  | 0, _, _, _, _, h => by simp [uni] at h
  | k + 1, b, t, u, x, h => by
    unfold uni at h ⊢
    split at h
    · rename_i e; rw [if_pos e]; exact h
    · rename_i e
      rw [if_neg e]
      generalize wlk b t = p at *
      generalize wlk b u = q at *
      cases p with
      | nm y => exact h
      | mk w ts =>
        cases q with
        | nm y => exact h
        | mk v us =>
          dsimp only at h ⊢
          split at h
          · rename_i hc
            rw [if_pos hc]
            obtain ⟨p, hp, e⟩ := Option.map_eq_some_iff.mp h
            rw [thr_mono (fun t _ b y hy => uni_mono hy) hp]
            simp [e]
          · rename_i hc
            rw [if_neg hc]; exact h
theorem uni_le {k k' : Nat} (hk : k ≤ k') {b : Bd} {t u : Tm} {x : Bool × Bd} (h : uni k b t u = some x) : uni k' b t u = some x := by
  induction hk with
  | refl => exact h
  | step _ ih => exact uni_mono ih
end Hd
end
section
set_option linter.all false
namespace Hd
open ML
/-- names not bound yet -/
def free (Nm : List Sg) (b : Bd) : Nat := Nm.countP fun x => (b.lookup x).isNone
theorem countP_lt {p q : Sg → Bool} {x : Sg} : ∀ {l : List Sg}, (∀ y, p y = true → q y = true) → x ∈ l → p x = false → q x = true → l.countP p < l.countP q
  | [], _, h, _, _ => nomatch h
  | a :: r, h, hx, h1, h2 => by
    have le : r.countP p ≤ r.countP q := List.countP_mono_left fun y _ => h y
    rcases List.mem_cons.mp hx with e | e
    · subst e
      simp only [List.countP_cons, h1, h2]
      simp
      omega
    · have := countP_lt h e h1 h2
      simp only [List.countP_cons]
      have : (if p a = true then 1 else 0) ≤ (if q a = true then 1 else 0) := by
        by_cases hp : p a = true
        · simp [hp, h a hp]
        · simp [hp]
      omega
section
variable {Sub : Tm → Prop} {Nm : List Sg}
theorem free_snoc {b : Bd} {x : Sg} {g : Tm} (hx : b.lookup x = none) (hm : x ∈ Nm) : free Nm (b ++ [(x, g)]) < free Nm b := by
  refine countP_lt (x := x) (fun y hy => ?_) hm (by rw [look_snoc, hx]; simp) (by rw [hx]; rfl)
  rw [look_snoc] at hy
  cases hb : b.lookup y with
  | none => rfl
  | some v => rw [hb] at hy; simp at hy
theorem thr_free {k : Nat} (hN : ∀ x, Sub (.nm x) → x ∈ Nm) (part : ∀ w ts, Sub (.mk w ts) → ∀ t ∈ ts, Sub t) (ih : ∀ {b t u r b'}, uni k b t u = some (r, b') → BI0 Sub b → Sub t → Sub u → b' = b ∨ free Nm b' < free Nm b) : ∀ {l : List (Tm × Tm)} {b b' : Bd} {rs : List Bool},
    thr (fun (p : Tm × Tm) b => uni k b p.1 p.2) l b = some (rs, b') → BI0 Sub b → (∀ p ∈ l, Sub p.1 ∧ Sub p.2) → b' = b ∨ free Nm b' < free Nm b
  | [], b, b', rs, h, B, _ => by
    simp only [thr, Option.some.injEq, Prod.mk.injEq] at h
    exact .inl h.2.symm
  | p :: l, b, b', rs, h, B, hs => by
    simp only [thr] at h
    obtain ⟨q, e1, h⟩ := Option.bind_eq_some_iff.mp h
    obtain ⟨s, e2, h⟩ := Option.map_eq_some_iff.mp h
    simp only [Prod.mk.injEq] at h
    rw [← h.2]
    have h1 := ih e1 B (hs p (by simp)).1 (hs p (by simp)).2
    have h2 := thr_free hN part ih e2 (uni_keep part e1 B (hs p (by simp)).1 (hs p (by simp)).2) fun p hp => hs p (List.mem_cons_of_mem _ hp)
    rcases h1 with h1 | h1
    · rw [h1] at h2; exact h2
    · rcases h2 with h2 | h2
      · rw [h2]; exact .inr h1
      · exact .inr (Nat.lt_trans h2 h1)
theorem uni_free (hN : ∀ x, Sub (.nm x) → x ∈ Nm) (part : ∀ w ts, Sub (.mk w ts) → ∀ t ∈ ts, Sub t) : ∀ {k : Nat} {b : Bd} {t u : Tm} {r : Bool} {b' : Bd}, uni k b t u = some (r, b') → BI0 Sub b → Sub t → Sub u → b' = b ∨ free Nm b' < free Nm b
  | 0, _, _, _, _, _, h, _, _, _ => by simp [uni] at h
  | k + 1, b, t, u, r, b', hr, B, ht, hu => by
    obtain ⟨m1, w1, hm1⟩ := wlk_wk B.ok t
    obtain ⟨m2, w2, hm2⟩ := wlk_wk B.ok u
    have s1 := walk_sub B.ran w1 ht
    have s2 := walk_sub B.ran w2 hu
    have e1 := w1.end
    have e2 := w2.end
    unfold uni at hr
    generalize wlk b t = h at *
    generalize wlk b u = g at *
    by_cases heq : h = g
    · rw [if_pos heq] at hr
      cases hr
      exact .inl rfl
    · rw [if_neg heq] at hr
      cases h with
      | nm x =>
        dsimp only at hr
        split at hr
        · cases hr; exact .inl rfl
        · cases hr
          exact .inr (free_snoc (e1 x rfl) (hN x s1))
      | mk w ts =>
        cases g with
        | nm x =>
          dsimp only at hr
          split at hr
          · cases hr; exact .inl rfl
          · cases hr
            exact .inr (free_snoc (e2 x rfl) (hN x s2))
        | mk v us =>
          dsimp only at hr
          split at hr
          · obtain ⟨p, hp, e⟩ := Option.map_eq_some_iff.mp hr
            simp only [Prod.mk.injEq] at e
            rw [← e.2]
            exact thr_free hN part (uni_free hN part) hp B fun q hq => ⟨part _ _ s2 _ (List.of_mem_zip hq).1, part _ _ s1 _ (List.of_mem_zip hq).2⟩
          · cases hr; exact .inl rfl
end
end Hd
end
section
set_option linter.all false
namespace Hd
open ML
section
variable {Sub : Tm → Prop} {Nm : List Sg}
theorem thr_ex (hN : ∀ x, Sub (.nm x) → x ∈ Nm) (part : ∀ w ts, Sub (.mk w ts) → ∀ t ∈ ts, Sub t) {c d : Nat}
    (H : ∀ b t u, BI0 Sub b → Sub t → Sub u → (free Nm b < c ∨ (free Nm b ≤ c ∧ (t.sub (sol b)).dep + (u.sub (sol b)).dep < d)) → ∃ k r b', uni k b t u = some (r, b')) :
    ∀ (l : List (Tm × Tm)) (b : Bd), BI0 Sub b → (∀ p ∈ l, Sub p.1 ∧ Sub p.2) → (free Nm b < c ∨ (free Nm b ≤ c ∧ ∀ p ∈ l, (p.1.sub (sol b)).dep + (p.2.sub (sol b)).dep < d)) → ∃ k rs b', thr (fun (p : Tm × Tm) b => uni k b p.1 p.2) l b = some (rs, b')
  | [], b, _, _, _ => ⟨0, [], b, rfl⟩
  | p :: l, b, B, hs, hm => by
    obtain ⟨k1, r, b1, e1⟩ := H b p.1 p.2 B (hs p (by simp)).1 (hs p (by simp)).2 (hm.imp id fun h => ⟨h.1, h.2 p (by simp)⟩)
    have B1 := uni_keep part e1 B (hs p (by simp)).1 (hs p (by simp)).2
    have hm1 : free Nm b1 < c ∨ (free Nm b1 ≤ c ∧ ∀ p ∈ l, (p.1.sub (sol b1)).dep + (p.2.sub (sol b1)).dep < d) := by
      rcases uni_free hN part e1 B (hs p (by simp)).1 (hs p (by simp)).2 with h | h
      · rw [h]; exact hm.imp id fun h => ⟨h.1, fun q hq => h.2 q (List.mem_cons_of_mem _ hq)⟩
      · rcases hm with z | z
        · exact .inl (Nat.lt_trans h z)
        · exact .inl (Nat.lt_of_lt_of_le h z.1)
    obtain ⟨k2, rs, b2, e2⟩ := thr_ex hN part H l b1 B1 (fun p hp => hs p (List.mem_cons_of_mem _ hp)) hm1
    refine ⟨max k1 k2, r :: rs, b2, ?_⟩
    simp only [thr]
    rw [uni_le (Nat.le_max_left k1 k2) e1]
    simp only [Option.bind_some]
    rw [thr_mono (fun t _ b y hy => uni_le (Nat.le_max_right k1 k2) hy) e2]
    rfl
theorem uni_ex (hN : ∀ x, Sub (.nm x) → x ∈ Nm) (part : ∀ w ts, Sub (.mk w ts) → ∀ t ∈ ts, Sub t) : ∀ (c d : Nat) (b : Bd) (t u : Tm), BI0 Sub b → Sub t → Sub u → free Nm b ≤ c → (t.sub (sol b)).dep + (u.sub (sol b)).dep ≤ d → ∃ k r b', uni k b t u = some (r, b') := by
  intro c
  induction c using Nat.strongRecOn with
  | ind c ihc =>
    intro d
    induction d using Nat.strongRecOn with
    | ind d ihd =>
      intro b t u B ht hu hc hd
      obtain ⟨m1, w1, _⟩ := wlk_wk B.ok t
      obtain ⟨m2, w2, _⟩ := wlk_wk B.ok u
      have s1 := walk_sub B.ran w1 ht
      have s2 := walk_sub B.ran w2 hu
      have q1 := w1.sub B.sol
      have q2 := w2.sub B.sol
      by_cases heq : wlk b t = wlk b u
      · exact ⟨1, true, b, by unfold uni; rw [if_pos heq]⟩
      · cases hh : wlk b t with
        | nm x =>
          refine ⟨1, ?_⟩
          unfold uni
          rw [if_neg heq, hh]
          dsimp only
          split
          · exact ⟨_, _, rfl⟩
          · exact ⟨_, _, rfl⟩
        | mk w ts =>
          cases hg : wlk b u with
          | nm x =>
            refine ⟨1, ?_⟩
            unfold uni
            rw [if_neg heq, hh, hg]
            dsimp only
            split
            · exact ⟨_, _, rfl⟩
            · exact ⟨_, _, rfl⟩
          | mk v us =>
            by_cases hcc : v = w ∧ us.length = ts.length
            · rw [hh] at s1 q1
              rw [hg] at s2 q2
              rw [← q1, ← q2] at hd
              simp only [Tm.sub, Tm.dep, Tm.subs_map] at hd
              obtain ⟨k, rs, b', e⟩ := thr_ex (c := c) (d := d) hN part (fun b t u B ht hu h => by
                rcases h with h | ⟨h1, h2⟩
                · exact ihc _ h _ b t u B ht hu (Nat.le_refl _) (Nat.le_refl _)
                · exact ihd _ h2 b t u B ht hu h1 (Nat.le_refl _)) (us.zip ts) b B (fun q hq => ⟨part _ _ s2 _ (List.of_mem_zip hq).1, part _ _ s1 _ (List.of_mem_zip hq).2⟩)
                (.inr ⟨hc, fun q hq => by
                  have a1 := Tm.dep_le (ts := us.map (Tm.sub (sol b))) (List.mem_map_of_mem (f := Tm.sub (sol b)) (List.of_mem_zip hq).1)
                  have a2 := Tm.dep_le (ts := ts.map (Tm.sub (sol b))) (List.mem_map_of_mem (f := Tm.sub (sol b)) (List.of_mem_zip hq).2)
                  omega⟩)
              refine ⟨k + 1, rs.all id, b', ?_⟩
              unfold uni
              rw [if_neg heq, hh, hg]
              dsimp only
              rw [if_pos hcc, e]
              rfl
            · refine ⟨1, false, b, ?_⟩
              unfold uni
              rw [if_neg heq, hh, hg]
              dsimp only
              rw [if_neg hcc]
end
end Hd
end
section
set_option linter.all false
namespace Hd
open ML
/-- later bindings refine -/
def Ext (b b' : Bd) : Prop := ∃ θ : Sg → Tm, ∀ y, sol b' y = (sol b y).sub θ
theorem sub_nm (t : Tm) : t.sub Tm.nm = t := by
  induction t using Tm.ind with
  | hn y => simp [Tm.sub]
  | hm w ts ih =>
    simp only [Tm.sub, Tm.subs_map]
    congr 1
    conv => rhs; rw [← List.map_id ts]
    exact List.map_congr_left fun t ht => ih t ht
theorem Ext.refl {b : Bd} : Ext b b := ⟨Tm.nm, fun y => (sub_nm _).symm⟩
theorem Ext.trans {a b c : Bd} (h : Ext a b) (g : Ext b c) : Ext a c := by
  obtain ⟨θ, e⟩ := h
  obtain ⟨η, e'⟩ := g
  exact ⟨fun x => (θ x).sub η, fun y => by rw [e', e, sub_sub]⟩
theorem Ext.snoc {b : Bd} {x : Sg} {t : Tm} : Ext b (b ++ [(x, t)]) := ⟨one x (t.sub (sol b)), fun y => by rw [sol_snoc]⟩
theorem dep_sub (θ : Sg → Tm) (t : Tm) : t.dep ≤ (t.sub θ).dep := by
  induction t using Tm.ind with
  | hn y => simp [Tm.dep]
  | hm w ts ih =>
    simp only [Tm.sub, Tm.dep, Tm.subs_map]
    have : Tm.deps ts ≤ Tm.deps (ts.map (Tm.sub θ)) := by
      by_cases hne : ts = []
      · subst hne; simp [Tm.deps]
      · obtain ⟨t, ht, e⟩ := deps_ex hne
        rw [← e]
        exact Nat.le_trans (ih t ht) (Tm.dep_le (List.mem_map_of_mem ht))
    omega
theorem Ext.dep {b b' : Bd} (h : Ext b b') (t : Tm) : (t.sub (sol b)).dep ≤ (t.sub (sol b')).dep := by
  obtain ⟨θ, e⟩ := h
  have : t.sub (sol b') = (t.sub (sol b)).sub θ := by
    rw [sub_sub]
    congr 1
    funext y
    exact e y
  rw [this]
  exact dep_sub θ _
end Hd
end
section
set_option linter.all false
namespace Hd
open ML
section
variable {Sub : Tm → Prop}
theorem thr_ext {k : Nat} (ih : ∀ {b t u r b'}, uni k b t u = some (r, b') → Ext b b') : ∀ {l : List (Tm × Tm)} {b b' : Bd} {rs : List Bool}, thr (fun (p : Tm × Tm) b => uni k b p.1 p.2) l b = some (rs, b') → Ext b b'
  | [], b, b', rs, h => by
    simp only [thr, Option.some.injEq, Prod.mk.injEq] at h
    rw [← h.2]; exact .refl
  | p :: l, b, b', rs, h => by
    simp only [thr] at h
    obtain ⟨q, e1, h⟩ := Option.bind_eq_some_iff.mp h
    obtain ⟨s, e2, h⟩ := Option.map_eq_some_iff.mp h
    simp only [Prod.mk.injEq] at h
    rw [← h.2]
    exact (ih e1).trans (thr_ext ih e2)
theorem uni_ext : ∀ {k : Nat} {b : Bd} {t u : Tm} {r : Bool} {b' : Bd}, uni k b t u = some (r, b') → Ext b b'
  | 0, _, _, _, _, _, h => by simp [uni] at h
  | k + 1, b, t, u, r, b', hr => by
    unfold uni at hr
    split at hr
    · cases hr; exact .refl
    · split at hr
      · split at hr
        · cases hr; exact .refl
        · cases hr; exact .snoc
      · split at hr
        · cases hr; exact .refl
        · cases hr; exact .snoc
      · split at hr
        · obtain ⟨p, hp, e⟩ := Option.map_eq_some_iff.mp hr
          simp only [Prod.mk.injEq] at e
          rw [← e.2]
          exact thr_ext uni_ext hp
        · cases hr; exact .refl
end
end Hd
end
section
set_option linter.all false
namespace Hd
open ML
section
variable {Sub : Tm → Prop}
theorem thr_lev {k K : Nat} (part : ∀ w ts, Sub (.mk w ts) → ∀ t ∈ ts, Sub t) (ih : ∀ {b t u r b'}, uni k b t u = some (r, b') → BI0 Sub b → Sub t → Sub u → ((t.sub (sol b')).dep < K ∨ (u.sub (sol b')).dep < K) → uni K b t u = some (r, b')) :
    ∀ {l : List (Tm × Tm)} {b b' : Bd} {rs : List Bool}, thr (fun (p : Tm × Tm) b => uni k b p.1 p.2) l b = some (rs, b') → BI0 Sub b → (∀ p ∈ l, Sub p.1 ∧ Sub p.2) → (∀ p ∈ l, (p.1.sub (sol b')).dep < K ∨ (p.2.sub (sol b')).dep < K) →
      thr (fun (p : Tm × Tm) b => uni K b p.1 p.2) l b = some (rs, b')
  | [], b, b', rs, h, _, _, _ => h
  | p :: l, b, b', rs, h, B, hs, hd => by
    simp only [thr] at h ⊢
    obtain ⟨q, e1, h⟩ := Option.bind_eq_some_iff.mp h
    obtain ⟨s, e2, h⟩ := Option.map_eq_some_iff.mp h
    simp only [Prod.mk.injEq] at h
    obtain ⟨h3, h4⟩ := h
    subst h3 h4
    have x2 : Ext q.2 s.2 := thr_ext uni_ext e2
    have B1 := uni_keep part e1 B (hs p (by simp)).1 (hs p (by simp)).2
    have f1 := ih e1 B (hs p (by simp)).1 (hs p (by simp)).2 ((hd p (by simp)).imp (fun h => Nat.lt_of_le_of_lt (x2.dep _) h) fun h => Nat.lt_of_le_of_lt (x2.dep _) h)
    have f2 := thr_lev part ih e2 B1 (fun p hp => hs p (List.mem_cons_of_mem _ hp)) fun p hp => hd p (List.mem_cons_of_mem _ hp)
    rw [f1]
    simp only [Option.bind_some]
    rw [f2]
    rfl
end
end Hd
end
section
set_option linter.all false
namespace Hd
open ML
section
variable {Sub : Tm → Prop} {N : Nat}
theorem thr_back {k : Nat} (ih : ∀ {b t u r b'}, uni k b t u = some (r, b') → BI0 Sub b → Sub t → Sub u → ∀ θ, Un b' θ → Un b θ) (part : ∀ w ts, Sub (.mk w ts) → ∀ t ∈ ts, Sub t) : ∀ {l : List (Tm × Tm)} {b b' : Bd} {rs : List Bool},
    thr (fun (p : Tm × Tm) b => uni k b p.1 p.2) l b = some (rs, b') → BI0 Sub b → (∀ p ∈ l, Sub p.1 ∧ Sub p.2) → ∀ θ, Un b' θ → Un b θ
  | [], b, b', rs, h, _, _, θ, z => by
    simp only [thr, Option.some.injEq, Prod.mk.injEq] at h
    rw [h.2]; exact z
  | p :: l, b, b', rs, h, B, hs, θ, z => by
    simp only [thr] at h
    obtain ⟨q, e1, h⟩ := Option.bind_eq_some_iff.mp h
    obtain ⟨s, e2, h⟩ := Option.map_eq_some_iff.mp h
    simp only [Prod.mk.injEq] at h
    rw [← h.2] at z
    exact ih e1 B (hs p (by simp)).1 (hs p (by simp)).2 θ (thr_back ih part e2 (uni_keep part e1 B (hs p (by simp)).1 (hs p (by simp)).2) (fun p hp => hs p (List.mem_cons_of_mem _ hp)) θ z)
theorem uni_back (part : ∀ w ts, Sub (.mk w ts) → ∀ t ∈ ts, Sub t) : ∀ {k : Nat} {b : Bd} {t u : Tm} {r : Bool} {b' : Bd}, uni k b t u = some (r, b') → BI0 Sub b → Sub t → Sub u → ∀ θ, Un b' θ → Un b θ
  | 0, _, _, _, _, _, h, _, _, _, _, _ => by simp [uni] at h
  | k + 1, b, t, u, r, b', hr, B, ht, hu, θ, z => by
    obtain ⟨m1, w1, _⟩ := wlk_wk B.ok t
    obtain ⟨m2, w2, _⟩ := wlk_wk B.ok u
    have s1 := walk_sub B.ran w1 ht
    have s2 := walk_sub B.ran w2 hu
    have e1 := w1.end
    have e2 := w2.end
    unfold uni at hr
    generalize wlk b t = h at *
    generalize wlk b u = g at *
    by_cases heq : h = g
    · rw [if_pos heq] at hr
      cases hr
      exact z
    · rw [if_neg heq] at hr
      cases h with
      | nm x =>
        dsimp only at hr
        split at hr
        · cases hr; exact z
        · cases hr; exact ((un_snoc (e1 x rfl)).mp z).1
      | mk w ts =>
        cases g with
        | nm x =>
          dsimp only at hr
          split at hr
          · cases hr; exact z
          · cases hr; exact ((un_snoc (e2 x rfl)).mp z).1
        | mk v us =>
          dsimp only at hr
          split at hr
          · obtain ⟨p, hp, e⟩ := Option.map_eq_some_iff.mp hr
            simp only [Prod.mk.injEq] at e
            rw [← e.2] at z
            exact thr_back (uni_back part) part hp B (fun q hq => ⟨part _ _ s2 _ (List.of_mem_zip hq).1, part _ _ s1 _ (List.of_mem_zip hq).2⟩) θ z
          · cases hr; exact z
end
end Hd
end
section
set_option linter.all false
namespace Hd
open ML
section
variable {Sub : Tm → Prop}
/-- enough levels: one more than either side is deep at the end -/
theorem uni_lev (part : ∀ w ts, Sub (.mk w ts) → ∀ t ∈ ts, Sub t) : ∀ {k : Nat} {b : Bd} {t u : Tm} {r : Bool} {b' : Bd} {K : Nat}, uni k b t u = some (r, b') → BI0 Sub b → Sub t → Sub u → ((t.sub (sol b')).dep < K ∨ (u.sub (sol b')).dep < K) → uni K b t u = some (r, b')
  | 0, _, _, _, _, _, _, h, _, _, _, _ => by simp [uni] at h
  | k + 1, b, t, u, r, b', 0, hr, B, ht, hu, hd => by omega
  | k + 1, b, t, u, r, b', K + 1, hr, B, ht, hu, hd => by
    have B' := uni_keep part hr B ht hu
    have un : Un b (sol b') := uni_back part hr B ht hu _ B'.sol.bd
    obtain ⟨m1, w1, _⟩ := wlk_wk B.ok t
    obtain ⟨m2, w2, _⟩ := wlk_wk B.ok u
    have s1 := walk_sub B.ran w1 ht
    have s2 := walk_sub B.ran w2 hu
    have q1 := w1.un un
    have q2 := w2.un un
    rw [← q1, ← q2] at hd
    unfold uni at hr ⊢
    generalize wlk b t = h at *
    generalize wlk b u = g at *
    by_cases heq : h = g
    · rw [if_pos heq] at hr ⊢
      exact hr
    · rw [if_neg heq] at hr ⊢
      cases h with
      | nm x => exact hr
      | mk w ts =>
        cases g with
        | nm x => exact hr
        | mk v us =>
          dsimp only at hr ⊢
          split at hr
          · rename_i hc
            rw [if_pos hc]
            obtain ⟨p, hp, e⟩ := Option.map_eq_some_iff.mp hr
            have e2 : p.2 = b' := by simp only [Prod.mk.injEq] at e; exact e.2
            rw [thr_lev (K := K) part (fun h a b c d => uni_lev part h a b c d) hp B (fun q hq => ⟨part _ _ s2 _ (List.of_mem_zip hq).1, part _ _ s1 _ (List.of_mem_zip hq).2⟩) fun q hq => ?_]
            · simp [e]
            · rw [e2]
              simp only [Tm.sub, Tm.dep, Tm.subs_map] at hd
              have a1 := Tm.dep_le (ts := us.map (Tm.sub (sol b'))) (List.mem_map_of_mem (f := Tm.sub (sol b')) (List.of_mem_zip hq).1)
              have a2 := Tm.dep_le (ts := ts.map (Tm.sub (sol b'))) (List.mem_map_of_mem (f := Tm.sub (sol b')) (List.of_mem_zip hq).2)
              omega
          · rename_i hc
            rw [if_neg hc]; exact hr
end
end Hd
end
section
set_option linter.all false
namespace Hd
open ML
/-- turn by turn, until one says no -/
def stp {α β : Type} (g : α → β → Option (Bool × β)) : List α → β → Option (Bool × β)
  | [], b => some (true, b)
  | t :: r, b => (g t b).bind fun q => if q.1 then stp g r q.2 else some q
theorem stp_cons {α β : Type} {g : α → β → Option (Bool × β)} {t : α} {r : List α} {b : β} {x : Bool × β} (h : stp g (t :: r) b = some x) : (g t b = some x ∧ x.1 = false) ∨ ∃ b1, g t b = some (true, b1) ∧ stp g r b1 = some x := by
  simp only [stp] at h
  obtain ⟨q, e1, h⟩ := Option.bind_eq_some_iff.mp h
  obtain ⟨q1, q2⟩ := q
  cases q1 with
  | true => exact .inr ⟨q2, e1, by simpa using h⟩
  | false =>
    simp at h
    subst h
    exact .inl ⟨e1, rfl⟩
theorem stp_no {α β : Type} {g : α → β → Option (Bool × β)} {t : α} {r : List α} {b b1 : β} (h : g t b = some (false, b1)) : stp g (t :: r) b = some (false, b1) := by simp [stp, h]
theorem stp_yes {α β : Type} {g : α → β → Option (Bool × β)} {t : α} {r : List α} {b b1 : β} (h : g t b = some (true, b1)) : stp g (t :: r) b = stp g r b1 := by simp [stp, h]
/-- the law's own going -/
def uniL : Nat → Bd → Tm → Tm → Option (Bool × Bd)
  | 0, _, _, _ => none
  | k + 1, b, t, u => if wlk b t = wlk b u then some (true, b) else match wlk b t, wlk b u with
    | .nm x, g => if (g.sub (sol b)).occ x then some (false, b) else some (true, b ++ [(x, g)])
    | .mk w ts, .nm x => if ((Tm.mk w ts).sub (sol b)).occ x then some (false, b) else some (true, b ++ [(x, .mk w ts)])
    | .mk w ts, .mk v us => if w = v then stp (fun (p : Tm × Tm) b => uniL k b p.1 p.2) (ts.zip us) b else some (false, b)
section
variable {Sub : Tm → Prop} {Nm : List Sg}
/-! keeps -/
theorem stp_keep {k : Nat} (ih : ∀ {b t u r b'}, uniL k b t u = some (r, b') → BI0 Sub b → Sub t → Sub u → BI0 Sub b') : ∀ {l : List (Tm × Tm)} {b b' : Bd} {r : Bool},
    stp (fun (p : Tm × Tm) b => uniL k b p.1 p.2) l b = some (r, b') → BI0 Sub b → (∀ p ∈ l, Sub p.1 ∧ Sub p.2) → BI0 Sub b'
  | [], b, b', r, h, B, _ => by
    simp only [stp, Option.some.injEq, Prod.mk.injEq] at h
    rw [← h.2]; exact B
  | p :: l, b, b', r, h, B, hs => by
    rcases stp_cons h with ⟨e, _⟩ | ⟨b1, e, h⟩
    · exact ih e B (hs p (by simp)).1 (hs p (by simp)).2
    · exact stp_keep ih h (ih e B (hs p (by simp)).1 (hs p (by simp)).2) fun p hp => hs p (List.mem_cons_of_mem _ hp)
theorem uniL_keep (part : ∀ w ts, Sub (.mk w ts) → ∀ t ∈ ts, Sub t) : ∀ {k : Nat} {b : Bd} {t u : Tm} {r : Bool} {b' : Bd}, uniL k b t u = some (r, b') → BI0 Sub b → Sub t → Sub u → BI0 Sub b'
  | 0, _, _, _, _, _, h, _, _, _ => by simp [uniL] at h
  | k + 1, b, t, u, r, b', hr, B, ht, hu => by
    obtain ⟨m1, w1, hm1⟩ := wlk_wk B.ok t
    obtain ⟨m2, w2, hm2⟩ := wlk_wk B.ok u
    have s1 := walk_sub B.ran w1 ht
    have s2 := walk_sub B.ran w2 hu
    have e1 := w1.end
    have e2 := w2.end
    unfold uniL at hr
    generalize wlk b t = h at *
    generalize wlk b u = g at *
    by_cases heq : h = g
    · rw [if_pos heq] at hr
      cases hr
      exact B
    · rw [if_neg heq] at hr
      cases h with
      | nm x =>
        dsimp only at hr
        split at hr
        · cases hr; exact B
        · rename_i ho
          cases hr
          exact B.snoc (e1 x rfl) s2 s1 (fun y e => ⟨e2 y e, fun z => heq (by rw [e, z])⟩) (by simpa using ho)
      | mk w ts =>
        cases g with
        | nm x =>
          dsimp only at hr
          split at hr
          · cases hr; exact B
          · rename_i ho
            cases hr
            exact B.snoc (e2 x rfl) s1 s2 (fun y e => by cases e) (by simpa using ho)
        | mk v us =>
          dsimp only at hr
          split at hr
          · exact stp_keep (uniL_keep part) hr B fun q hq => ⟨part _ _ s1 _ (List.of_mem_zip hq).1, part _ _ s2 _ (List.of_mem_zip hq).2⟩
          · cases hr; exact B
/-! fewer free names -/
theorem stp_free {k : Nat} (hN : ∀ x, Sub (.nm x) → x ∈ Nm) (part : ∀ w ts, Sub (.mk w ts) → ∀ t ∈ ts, Sub t) (ih : ∀ {b t u r b'}, uniL k b t u = some (r, b') → BI0 Sub b → Sub t → Sub u → b' = b ∨ free Nm b' < free Nm b) : ∀ {l : List (Tm × Tm)} {b b' : Bd} {r : Bool},
    stp (fun (p : Tm × Tm) b => uniL k b p.1 p.2) l b = some (r, b') → BI0 Sub b → (∀ p ∈ l, Sub p.1 ∧ Sub p.2) → b' = b ∨ free Nm b' < free Nm b
  | [], b, b', r, h, B, _ => by
    simp only [stp, Option.some.injEq, Prod.mk.injEq] at h
    exact .inl h.2.symm
  | p :: l, b, b', r, h, B, hs => by
    rcases stp_cons h with ⟨e, _⟩ | ⟨b1, e1, h⟩
    · exact ih e B (hs p (by simp)).1 (hs p (by simp)).2
    · have h1 := ih e1 B (hs p (by simp)).1 (hs p (by simp)).2
      have h2 := stp_free hN part ih h (uniL_keep part e1 B (hs p (by simp)).1 (hs p (by simp)).2) fun p hp => hs p (List.mem_cons_of_mem _ hp)
      rcases h1 with h1 | h1
      · rw [h1] at h2; exact h2
      · rcases h2 with h2 | h2
        · rw [h2]; exact .inr h1
        · exact .inr (Nat.lt_trans h2 h1)
theorem uniL_free (hN : ∀ x, Sub (.nm x) → x ∈ Nm) (part : ∀ w ts, Sub (.mk w ts) → ∀ t ∈ ts, Sub t) : ∀ {k : Nat} {b : Bd} {t u : Tm} {r : Bool} {b' : Bd}, uniL k b t u = some (r, b') → BI0 Sub b → Sub t → Sub u → b' = b ∨ free Nm b' < free Nm b
  | 0, _, _, _, _, _, h, _, _, _ => by simp [uniL] at h
  | k + 1, b, t, u, r, b', hr, B, ht, hu => by
    obtain ⟨m1, w1, hm1⟩ := wlk_wk B.ok t
    obtain ⟨m2, w2, hm2⟩ := wlk_wk B.ok u
    have s1 := walk_sub B.ran w1 ht
    have s2 := walk_sub B.ran w2 hu
    have e1 := w1.end
    have e2 := w2.end
    unfold uniL at hr
    generalize wlk b t = h at *
    generalize wlk b u = g at *
    by_cases heq : h = g
    · rw [if_pos heq] at hr
      cases hr
      exact .inl rfl
    · rw [if_neg heq] at hr
      cases h with
      | nm x =>
        dsimp only at hr
        split at hr
        · cases hr; exact .inl rfl
        · cases hr
          exact .inr (free_snoc (e1 x rfl) (hN x s1))
      | mk w ts =>
        cases g with
        | nm x =>
          dsimp only at hr
          split at hr
          · cases hr; exact .inl rfl
          · cases hr
            exact .inr (free_snoc (e2 x rfl) (hN x s2))
        | mk v us =>
          dsimp only at hr
          split at hr
          · exact stp_free hN part (uniL_free hN part) hr B fun q hq => ⟨part _ _ s1 _ (List.of_mem_zip hq).1, part _ _ s2 _ (List.of_mem_zip hq).2⟩
          · cases hr; exact .inl rfl
/-! more levels, the same answer -/
theorem stp_mono {α β : Type} {g g' : α → β → Option (Bool × β)} : ∀ {l : List α} {b : β} {x : Bool × β}, (∀ t ∈ l, ∀ b y, g t b = some y → g' t b = some y) → stp g l b = some x → stp g' l b = some x
  | [], b, x, _, h => h
  | t :: r, b, x, hg, h => by
    rcases stp_cons h with ⟨e, ex⟩ | ⟨b1, e1, h⟩
    · obtain ⟨x1, x2⟩ := x
      simp only at ex
      subst ex
      exact stp_no (hg t (by simp) b _ e)
    · rw [stp_yes (hg t (by simp) b _ e1)]
      exact stp_mono (fun t ht => hg t (List.mem_cons_of_mem _ ht)) h
theorem uniL_mono : ∀ {k : Nat} {b : Bd} {t u : Tm} {x : Bool × Bd}, uniL k b t u = some x → uniL (k + 1) b t u = some x
  | 0, _, _, _, _, h => by simp [uniL] at h
  | k + 1, b, t, u, x, h => by
    unfold uniL at h ⊢
    split at h
    · rename_i e; rw [if_pos e]; exact h
    · rename_i e
      rw [if_neg e]
      generalize wlk b t = p at *
      generalize wlk b u = q at *
      cases p with
      | nm y => exact h
      | mk w ts =>
        cases q with
        | nm y => exact h
        | mk v us =>
          dsimp only at h ⊢
          split at h
          · rename_i hc
            rw [if_pos hc]
            exact stp_mono (fun t _ b y hy => uniL_mono hy) h
          · rename_i hc
            rw [if_neg hc]; exact h
theorem uniL_le {k k' : Nat} (hk : k ≤ k') {b : Bd} {t u : Tm} {x : Bool × Bd} (h : uniL k b t u = some x) : uniL k' b t u = some x := by
  induction hk with
  | refl => exact h
  | step _ ih => exact uniL_mono ih
/-! something is told -/
theorem stp_ex (hN : ∀ x, Sub (.nm x) → x ∈ Nm) (part : ∀ w ts, Sub (.mk w ts) → ∀ t ∈ ts, Sub t) {c d : Nat}
    (H : ∀ b t u, BI0 Sub b → Sub t → Sub u → (free Nm b < c ∨ (free Nm b ≤ c ∧ (t.sub (sol b)).dep + (u.sub (sol b)).dep < d)) → ∃ k r b', uniL k b t u = some (r, b')) :
    ∀ (l : List (Tm × Tm)) (b : Bd), BI0 Sub b → (∀ p ∈ l, Sub p.1 ∧ Sub p.2) → (free Nm b < c ∨ (free Nm b ≤ c ∧ ∀ p ∈ l, (p.1.sub (sol b)).dep + (p.2.sub (sol b)).dep < d)) → ∃ k r b', stp (fun (p : Tm × Tm) b => uniL k b p.1 p.2) l b = some (r, b')
  | [], b, _, _, _ => ⟨0, true, b, rfl⟩
  | p :: l, b, B, hs, hm => by
    obtain ⟨k1, r, b1, e1⟩ := H b p.1 p.2 B (hs p (by simp)).1 (hs p (by simp)).2 (hm.imp id fun h => ⟨h.1, h.2 p (by simp)⟩)
    cases r with
    | false => exact ⟨k1, false, b1, stp_no e1⟩
    | true =>
      have B1 := uniL_keep part e1 B (hs p (by simp)).1 (hs p (by simp)).2
      have hm1 : free Nm b1 < c ∨ (free Nm b1 ≤ c ∧ ∀ p ∈ l, (p.1.sub (sol b1)).dep + (p.2.sub (sol b1)).dep < d) := by
        rcases uniL_free hN part e1 B (hs p (by simp)).1 (hs p (by simp)).2 with h | h
        · rw [h]; exact hm.imp id fun h => ⟨h.1, fun q hq => h.2 q (List.mem_cons_of_mem _ hq)⟩
        · rcases hm with z | z
          · exact .inl (Nat.lt_trans h z)
          · exact .inl (Nat.lt_of_lt_of_le h z.1)
      obtain ⟨k2, rs, b2, e2⟩ := stp_ex hN part H l b1 B1 (fun p hp => hs p (List.mem_cons_of_mem _ hp)) hm1
      refine ⟨max k1 k2, rs, b2, ?_⟩
      rw [stp_yes (uniL_le (Nat.le_max_left k1 k2) e1)]
      exact stp_mono (fun t _ b y hy => uniL_le (Nat.le_max_right k1 k2) hy) e2
theorem uniL_ex (hN : ∀ x, Sub (.nm x) → x ∈ Nm) (part : ∀ w ts, Sub (.mk w ts) → ∀ t ∈ ts, Sub t) : ∀ (c d : Nat) (b : Bd) (t u : Tm), BI0 Sub b → Sub t → Sub u → free Nm b ≤ c → (t.sub (sol b)).dep + (u.sub (sol b)).dep ≤ d → ∃ k r b', uniL k b t u = some (r, b') := by
  intro c
  induction c using Nat.strongRecOn with
  | ind c ihc =>
    intro d
    induction d using Nat.strongRecOn with
    | ind d ihd =>
      intro b t u B ht hu hc hd
      obtain ⟨m1, w1, _⟩ := wlk_wk B.ok t
      obtain ⟨m2, w2, _⟩ := wlk_wk B.ok u
      have s1 := walk_sub B.ran w1 ht
      have s2 := walk_sub B.ran w2 hu
      have q1 := w1.sub B.sol
      have q2 := w2.sub B.sol
      by_cases heq : wlk b t = wlk b u
      · exact ⟨1, true, b, by unfold uniL; rw [if_pos heq]⟩
      · cases hh : wlk b t with
        | nm x =>
          refine ⟨1, ?_⟩
          unfold uniL
          rw [if_neg heq, hh]
          dsimp only
          split
          · exact ⟨_, _, rfl⟩
          · exact ⟨_, _, rfl⟩
        | mk w ts =>
          cases hg : wlk b u with
          | nm x =>
            refine ⟨1, ?_⟩
            unfold uniL
            rw [if_neg heq, hh, hg]
            dsimp only
            split
            · exact ⟨_, _, rfl⟩
            · exact ⟨_, _, rfl⟩
          | mk v us =>
            by_cases hcc : w = v
            · rw [hh] at s1 q1
              rw [hg] at s2 q2
              rw [← q1, ← q2] at hd
              simp only [Tm.sub, Tm.dep, Tm.subs_map] at hd
              obtain ⟨k, rs, b', e⟩ := stp_ex (c := c) (d := d) hN part (fun b t u B ht hu h => by
                rcases h with h | ⟨h1, h2⟩
                · exact ihc _ h _ b t u B ht hu (Nat.le_refl _) (Nat.le_refl _)
                · exact ihd _ h2 b t u B ht hu h1 (Nat.le_refl _)) (ts.zip us) b B (fun q hq => ⟨part _ _ s1 _ (List.of_mem_zip hq).1, part _ _ s2 _ (List.of_mem_zip hq).2⟩)
                (.inr ⟨hc, fun q hq => by
                  have a1 := Tm.dep_le (ts := us.map (Tm.sub (sol b))) (List.mem_map_of_mem (f := Tm.sub (sol b)) (List.of_mem_zip hq).2)
                  have a2 := Tm.dep_le (ts := ts.map (Tm.sub (sol b))) (List.mem_map_of_mem (f := Tm.sub (sol b)) (List.of_mem_zip hq).1)
                  omega⟩)
              refine ⟨k + 1, rs, b', ?_⟩
              unfold uniL
              rw [if_neg heq, hh, hg]
              dsimp only
              rw [if_pos hcc, e]
            · refine ⟨1, false, b, ?_⟩
              unfold uniL
              rw [if_neg heq, hh, hg]
              dsimp only
              rw [if_neg hcc]
/-! refines -/
theorem stp_ext {k : Nat} (ih : ∀ {b t u r b'}, uniL k b t u = some (r, b') → Ext b b') : ∀ {l : List (Tm × Tm)} {b b' : Bd} {r : Bool}, stp (fun (p : Tm × Tm) b => uniL k b p.1 p.2) l b = some (r, b') → Ext b b'
  | [], b, b', r, h => by
    simp only [stp, Option.some.injEq, Prod.mk.injEq] at h
    rw [← h.2]; exact .refl
  | p :: l, b, b', r, h => by
    rcases stp_cons h with ⟨e, _⟩ | ⟨b1, e1, h⟩
    · exact ih e
    · exact (ih e1).trans (stp_ext ih h)
theorem uniL_ext : ∀ {k : Nat} {b : Bd} {t u : Tm} {r : Bool} {b' : Bd}, uniL k b t u = some (r, b') → Ext b b'
  | 0, _, _, _, _, _, h => by simp [uniL] at h
  | k + 1, b, t, u, r, b', hr => by
    unfold uniL at hr
    split at hr
    · cases hr; exact .refl
    · split at hr
      · split at hr
        · cases hr; exact .refl
        · cases hr; exact .snoc
      · split at hr
        · cases hr; exact .refl
        · cases hr; exact .snoc
      · split at hr
        · exact stp_ext uniL_ext hr
        · cases hr; exact .refl
/-! what the answer means -/
theorem stp_ans {k : Nat} (part : ∀ w ts, Sub (.mk w ts) → ∀ t ∈ ts, Sub t)
    (ih : ∀ {b t u r b'}, uniL k b t u = some (r, b') → BI0 Sub b → Sub t → Sub u → Ans b (fun θ => t.sub θ = u.sub θ) r b') : ∀ {l : List (Tm × Tm)} {b b' : Bd} {r : Bool},
    stp (fun (p : Tm × Tm) b => uniL k b p.1 p.2) l b = some (r, b') → BI0 Sub b → (∀ p ∈ l, Sub p.1 ∧ Sub p.2) → Ans b (fun θ => ∀ p ∈ l, p.1.sub θ = p.2.sub θ) r b'
  | [], b, b', r, h, _, _ => by
    simp only [stp, Option.some.injEq, Prod.mk.injEq] at h
    obtain ⟨e1, e2⟩ := h
    subst e1 e2
    exact ⟨fun _ h => h, (fun _ _ _ _ z => nomatch z), fun _ h _ => ⟨rfl, h⟩⟩
  | p :: l, b, b', r, h, B, hs => by
    obtain ⟨p1, p2⟩ := hs p (by simp)
    rcases stp_cons h with ⟨e, ef⟩ | ⟨b1, e1, h⟩
    · have A1 := ih e B p1 p2
      exact ⟨A1.back, (fun z => by simp only at ef; rw [ef] at z; nomatch z), fun θ h hp => A1.full θ h (hp p (by simp))⟩
    · have A1 := ih e1 B p1 p2
      have A2 := stp_ans part ih h (uniL_keep part e1 B p1 p2) fun p hp => hs p (List.mem_cons_of_mem _ hp)
      refine ⟨fun θ h => A1.back θ (A2.back θ h), fun hr θ h => ?_, fun θ h hp => ?_⟩
      · intro z hz
        rcases List.mem_cons.mp hz with e | e
        · rw [e]; exact A1.sound rfl θ (A2.back θ h)
        · exact A2.sound hr θ h z e
      · obtain ⟨r1, u1⟩ := A1.full θ h (hp p (by simp))
        exact A2.full θ u1 fun z hz => hp z (List.mem_cons_of_mem _ hz)
theorem uniL_ans (part : ∀ w ts, Sub (.mk w ts) → ∀ t ∈ ts, Sub t) (har : ∀ w ts us, Sub (.mk w ts) → Sub (.mk w us) → ts.length = us.length) : ∀ {k : Nat} {b : Bd} {t u : Tm} {r : Bool} {b' : Bd}, uniL k b t u = some (r, b') → BI0 Sub b → Sub t → Sub u → Ans b (fun θ => t.sub θ = u.sub θ) r b'
  | 0, _, _, _, _, _, h, _, _, _ => by simp [uniL] at h
  | k + 1, b, t, u, r, b', hr, B, ht, hu => by
    obtain ⟨m1, w1, hm1⟩ := wlk_wk B.ok t
    obtain ⟨m2, w2, hm2⟩ := wlk_wk B.ok u
    have s1 := walk_sub B.ran w1 ht
    have s2 := walk_sub B.ran w2 hu
    have e1 := w1.end
    have e2 := w2.end
    unfold uniL at hr
    generalize wlk b t = h at *
    generalize wlk b u = g at *
    have key : Ans b (fun θ => h.sub θ = g.sub θ) r b' → Ans b (fun θ => t.sub θ = u.sub θ) r b' := fun A =>
      ⟨A.back, fun hr θ hθ => by
        have := A.sound hr θ hθ
        rw [w1.un (A.back θ hθ), w2.un (A.back θ hθ)] at this
        exact this, fun θ hθ e => A.full θ hθ (by rw [w1.un hθ, w2.un hθ]; exact e)⟩
    apply key
    have bnd : ∀ x s, b.lookup x = none → Ans b (fun θ => (Tm.nm x).sub θ = s.sub θ) true (b ++ [(x, s)]) := fun x s hx =>
      ⟨fun θ h => ((un_snoc hx).mp h).1, fun _ θ h => by simpa [Tm.sub] using ((un_snoc hx).mp h).2, fun θ h e => ⟨rfl, (un_snoc hx).mpr ⟨h, by simpa [Tm.sub] using e⟩⟩⟩
    have sym : ∀ {s s' : Tm} {r b'}, Ans b (fun θ => s.sub θ = s'.sub θ) r b' → Ans b (fun θ => s'.sub θ = s.sub θ) r b' := fun A => ⟨A.back, fun hr θ h => (A.sound hr θ h).symm, fun θ h e => A.full θ h e.symm⟩
    by_cases heq : h = g
    · rw [if_pos heq] at hr
      cases hr
      subst heq
      exact ⟨fun _ h => h, fun _ _ _ => rfl, fun _ h _ => ⟨rfl, h⟩⟩
    · rw [if_neg heq] at hr
      cases h with
      | nm x =>
        have hx := e1 x rfl
        dsimp only at hr
        split at hr
        · rename_i ho
          cases hr
          refine ⟨fun _ h => h, (fun z => nomatch z), fun θ h e => ?_⟩
          cases g with
          | nm z =>
            have hz := B.sol.fr z (e2 z rfl)
            simp only [Tm.sub, hz, Tm.occ, beq_iff_eq] at ho
            exact absurd (by rw [ho]) heq
          | mk w ts => exact absurd (by simpa [Tm.sub] using e) (no_occ B.ok ho h)
        · cases hr
          exact bnd x g hx
      | mk w ts =>
        cases g with
        | nm x =>
          have hx := e2 x rfl
          dsimp only at hr
          split at hr
          · rename_i ho
            cases hr
            exact ⟨fun _ h => h, (fun z => nomatch z), fun θ h e => absurd (by simpa [Tm.sub] using e.symm) (no_occ B.ok ho h)⟩
          · cases hr
            exact sym (bnd x _ hx)
        | mk v us =>
          dsimp only at hr
          split at hr
          · rename_i hw
            subst hw
            have hlen := har _ _ _ s1 s2
            have A := stp_ans part (uniL_ans part har) hr B fun q hq => ⟨part _ _ s1 _ (List.of_mem_zip hq).1, part _ _ s2 _ (List.of_mem_zip hq).2⟩
            have eqv : ∀ θ : Sg → Tm, (∀ p ∈ ts.zip us, p.1.sub θ = p.2.sub θ) ↔ (Tm.mk w us).sub θ = (Tm.mk w ts).sub θ := fun θ => by
              simp only [Tm.sub, Tm.subs_map, Tm.mk.injEq, true_and]
              exact zip_sub ts us hlen
            exact ⟨A.back, fun hr θ h => ((eqv θ).mp (A.sound hr θ h)).symm, fun θ h e => A.full θ h ((eqv θ).mpr e.symm)⟩
          · rename_i hc
            cases hr
            refine ⟨fun _ h => h, (fun z => nomatch z), fun θ h e => absurd ?_ hc⟩
            simp only [Tm.sub, Tm.mk.injEq, Tm.subs_map] at e
            exact e.1
/-! enough levels -/
theorem uniL_back (part : ∀ w ts, Sub (.mk w ts) → ∀ t ∈ ts, Sub t) (har : ∀ w ts us, Sub (.mk w ts) → Sub (.mk w us) → ts.length = us.length) {k : Nat} {b : Bd} {t u : Tm} {r : Bool} {b' : Bd} (h : uniL k b t u = some (r, b')) (B : BI0 Sub b) (ht : Sub t) (hu : Sub u) : ∀ θ, Un b' θ → Un b θ :=
  (uniL_ans part har h B ht hu).back
theorem stp_lev {k K : Nat} (part : ∀ w ts, Sub (.mk w ts) → ∀ t ∈ ts, Sub t) (ih : ∀ {b t u r b'}, uniL k b t u = some (r, b') → BI0 Sub b → Sub t → Sub u → ((t.sub (sol b')).dep < K ∨ (u.sub (sol b')).dep < K) → uniL K b t u = some (r, b')) :
    ∀ {l : List (Tm × Tm)} {b b' : Bd} {r : Bool}, stp (fun (p : Tm × Tm) b => uniL k b p.1 p.2) l b = some (r, b') → BI0 Sub b → (∀ p ∈ l, Sub p.1 ∧ Sub p.2) → (∀ p ∈ l, (p.1.sub (sol b')).dep < K ∨ (p.2.sub (sol b')).dep < K) →
      stp (fun (p : Tm × Tm) b => uniL K b p.1 p.2) l b = some (r, b')
  | [], b, b', r, h, _, _, _ => h
  | p :: l, b, b', r, h, B, hs, hd => by
    rcases stp_cons h with ⟨e, ef⟩ | ⟨b1, e1, h⟩
    · simp only at ef
      subst ef
      exact stp_no (ih e B (hs p (by simp)).1 (hs p (by simp)).2 (hd p (by simp)))
    · have x2 : Ext b1 b' := stp_ext uniL_ext h
      have B1 := uniL_keep part e1 B (hs p (by simp)).1 (hs p (by simp)).2
      have f1 := ih e1 B (hs p (by simp)).1 (hs p (by simp)).2 ((hd p (by simp)).imp (fun h => Nat.lt_of_le_of_lt (x2.dep _) h) fun h => Nat.lt_of_le_of_lt (x2.dep _) h)
      have f2 := stp_lev part ih h B1 (fun p hp => hs p (List.mem_cons_of_mem _ hp)) fun p hp => hd p (List.mem_cons_of_mem _ hp)
      rw [stp_yes f1]
      exact f2
theorem uniL_lev (part : ∀ w ts, Sub (.mk w ts) → ∀ t ∈ ts, Sub t) (har : ∀ w ts us, Sub (.mk w ts) → Sub (.mk w us) → ts.length = us.length) : ∀ {k : Nat} {b : Bd} {t u : Tm} {r : Bool} {b' : Bd} {K : Nat}, uniL k b t u = some (r, b') → BI0 Sub b → Sub t → Sub u → ((t.sub (sol b')).dep < K ∨ (u.sub (sol b')).dep < K) → uniL K b t u = some (r, b')
  | 0, _, _, _, _, _, _, h, _, _, _, _ => by simp [uniL] at h
  | k + 1, b, t, u, r, b', 0, hr, B, ht, hu, hd => by omega
  | k + 1, b, t, u, r, b', K + 1, hr, B, ht, hu, hd => by
    have B' := uniL_keep part hr B ht hu
    have un : Un b (sol b') := uniL_back part har hr B ht hu _ B'.sol.bd
    obtain ⟨m1, w1, _⟩ := wlk_wk B.ok t
    obtain ⟨m2, w2, _⟩ := wlk_wk B.ok u
    have s1 := walk_sub B.ran w1 ht
    have s2 := walk_sub B.ran w2 hu
    have q1 := w1.un un
    have q2 := w2.un un
    rw [← q1, ← q2] at hd
    unfold uniL at hr ⊢
    generalize wlk b t = h at *
    generalize wlk b u = g at *
    by_cases heq : h = g
    · rw [if_pos heq] at hr ⊢
      exact hr
    · rw [if_neg heq] at hr ⊢
      cases h with
      | nm x => exact hr
      | mk w ts =>
        cases g with
        | nm x => exact hr
        | mk v us =>
          dsimp only at hr ⊢
          split at hr
          · rename_i hc
            rw [if_pos hc]
            refine stp_lev (K := K) part (fun h a b c d => uniL_lev part har h a b c d) hr B (fun q hq => ⟨part _ _ s1 _ (List.of_mem_zip hq).1, part _ _ s2 _ (List.of_mem_zip hq).2⟩) fun q hq => ?_
            simp only [Tm.sub, Tm.dep, Tm.subs_map] at hd
            have a1 := Tm.dep_le (ts := us.map (Tm.sub (sol b'))) (List.mem_map_of_mem (f := Tm.sub (sol b')) (List.of_mem_zip hq).2)
            have a2 := Tm.dep_le (ts := ts.map (Tm.sub (sol b'))) (List.mem_map_of_mem (f := Tm.sub (sol b')) (List.of_mem_zip hq).1)
            omega
          · rename_i hc
            rw [if_neg hc]; exact hr
end
end Hd
end
section
set_option linter.all false
set_option maxRecDepth 10000
namespace Hd
open ML
section
variable {W : Nat} {Sub : Tm → Prop} {N : Nat}
theorem call_alike (L : Lim Sub N) (hW : 1000 ≤ W) (inv : ∀ {k b t u r b'}, uniL k b t u = some (r, b') → BIn Sub N b → Sub t → Sub u → BIn Sub N b') {l : Nat} {S : St} (hl : l < S.length) : ∀ {k : Nat} {b b' : Bd} {t u : Tm} {r : Bool}, BIn Sub N b → Sub t → Sub u →
    uniL k b t u = some (r, b') → ∀ {n : Nat}, k + N + 2 ≤ n → call TT W (n + 1) 19 [t.D, u.D, .loc l] (S.set l b.O) = .ok (.bl r) (S.set l b'.O)
  | 0, b, b', t, u, r, B, ht, hu, hr, n, hn => by simp [uniL] at hr
  | k + 1, b, b', t, u, r, B, ht, hu, hr, n, hn => by
    have hl' : (S.set l b.O)[l]? = some b.O := by simp [hl]
    obtain ⟨m1, w1, hm1⟩ := wlk_wk B.ok t
    obtain ⟨m2, w2, hm2⟩ := wlk_wk B.ok u
    have hb := B.len
    obtain ⟨n', rfl⟩ : ∃ n', n = n' + 1 := ⟨n - 1, by omega⟩
    have IH := fun {b b' t u r} => call_alike L hW inv hl (k := k) (b := b) (b' := b') (t := t) (u := u) (r := r)
    have k1 := call_now (W := W) hl' w1 (by omega) n'
    have k2 := call_now (W := W) hl' w2 (by omega) n'
    have s1 := walk_sub B.ran w1 ht
    have s2 := walk_sub B.ran w2 hu
    have c1 := Tm.cmp (L.dep _ s1)
    have c2 := Tm.cmp (L.dep _ s2)
    have e1 := w1.end
    have e2 := w2.end
    have d1 := B.dep _ s1
    have d2 := B.dep _ s2
    show runFn TT W (call TT W (n' + 1)) f__law_alike _ _ = _
    refine (run_rt (d := .bl r) (S' := S.set l b'.O) rfl ?_).trans (gc_len (by simp))
    unfold f__law_alike
    unfold uniL at hr
    generalize hh : wlk b t = h at *
    generalize hg : wlk b u = g at *
    by_cases heq : h = g
    · rw [if_pos heq] at hr
      cases hr
      subst heq
      simp [exSs, exS, evE, evEs, asgT, asgTs, itemsOf, k1, k2, cmpD, c1, Tm.eqp_dec, asBool]
    · rw [if_neg heq] at hr
      have q1 : D.eqp h.D g.D = false := by rw [Tm.eqp_dec, decide_eq_false heq]
      cases h with
      | nm x =>
        have ex := e1 x rfl
        have st := call_within (W := W) hl' B.ok B.sol (by omega) x N n' g d2 (by omega)
        dsimp only at hr
        have hbl : b.length < lim := by unfold lim; omega
        cases ho : (g.sub (sol b)).occ x with
        | true =>
          rw [ho] at hr st
          cases hr
          simp [exSs, exS, evE, evEs, asgT, asgTs, itemsOf, k1, k2, cmpD, c1, c2, q1, asBool, i_nm0, i_nm1, c_str, e_str, st, sName]
        | false =>
          rw [ho] at hr st
          cases hr
          have po := put_O (t := g) ex
          have hs : setIx (.loc l) (.str x) g.D (S.set l b.O) = .ok () (S.set l (Bd.O (b ++ [(x, g)]))) := by
            unfold setIx
            simp only [hl']
            unfold Bd.O
            simp [keyOk, hbl, po]
          simp [exSs, exS, evE, evEs, asgT, asgTs, itemsOf, k1, k2, cmpD, c1, c2, q1, asBool, i_nm0, i_nm1, c_str, e_str, st, sName, hs]
      | mk w ts =>
        cases g with
        | nm x =>
          have ex := e2 x rfl
          have st := call_within (W := W) hl' B.ok B.sol (by omega) x N n' (.mk w ts) d1 (by omega)
          dsimp only at hr
          have hbl : b.length < lim := by unfold lim; omega
          cases ho : ((Tm.mk w ts).sub (sol b)).occ x with
          | true =>
            rw [ho] at hr st
            cases hr
            simp [exSs, exS, evE, evEs, asgT, asgTs, itemsOf, k1, k2, cmpD, c1, c2, q1, asBool, i_nm0, i_nm1, i_mk0, i_mk1, c_str, e_str, st, sName, sMade]
          | false =>
            rw [ho] at hr st
            cases hr
            have po := put_O (t := .mk w ts) ex
            have hs : setIx (.loc l) (.str x) (Tm.mk w ts).D (S.set l b.O) = .ok () (S.set l (Bd.O (b ++ [(x, .mk w ts)]))) := by
              unfold setIx
              simp only [hl']
              unfold Bd.O
              simp [keyOk, hbl, po]
            simp [exSs, exS, evE, evEs, asgT, asgTs, itemsOf, k1, k2, cmpD, c1, c2, q1, asBool, i_nm0, i_nm1, i_mk0, i_mk1, c_str, e_str, st, sName, sMade, hs]
        | mk v us =>
          dsimp only at hr
          by_cases hc : w = v
          · rw [if_pos hc] at hr
            subst hc
            simp [exSs, exS, evE, evEs, asgT, asgTs, itemsOf, k1, k2, cmpD, c1, c2, q1, asBool, i_mk0, i_mk1, i_mk2, c_str, e_str, c_int, e_int, sName, sMade, evL, evIt, okG]
            have hz : ((Tm.Ds ts).zip (Tm.Ds us)).map (fun r => D.tup [r.1, r.2]) = (ts.zip us).map fun r => D.tup [r.1.D, r.2.D] := by
              rw [Tm.Ds_map, Tm.Ds_map, List.zip_map, List.map_map]
              rfl
            rw [hz]
            refine forD_bnd (F := fun r : Tm × Tm => D.tup [r.1.D, r.2.D]) (fun q σ S' => (∃ x y, σ = [some (Tm.mk w ts).D, some (Tm.mk w us).D, some (.loc l), none, none, x, y]) ∧ (∀ p ∈ q, Sub p.1 ∧ Sub p.2) ∧ ∃ b1, S' = S.set l b1.O ∧ BIn Sub N b1 ∧ stp (fun (p : Tm × Tm) b => uniL k b p.1 p.2) q b1 = some (r, b')) (fun d S' => r = false ∧ d = .bl false ∧ S' = S.set l b'.O)
              ⟨⟨_, _, rfl⟩, fun p hp => ⟨L.part _ _ s1 _ (List.of_mem_zip hp).1, L.part _ _ s2 _ (List.of_mem_zip hp).2⟩, b, rfl, B, hr⟩ (fun _ _ _ _ => rfl) ?_ ?_ ?_
            · rintro t q σ S' ⟨⟨x, y, rfl⟩, hq, b1, rfl, B1, h⟩
              obtain ⟨q1, q2⟩ := hq t (by simp)
              rcases stp_cons h with ⟨e, ef⟩ | ⟨b2, e, h⟩
              · simp only at ef
                subst ef
                have c7 := IH B1 q1 q2 e (n := n') (by omega)
                exact .inr ⟨_, _, by simp [evE, evEs, c7, asgT, asgTs, itemsOf, asBool], rfl, rfl, rfl⟩
              · have c7 := IH B1 q1 q2 e (n := n') (by omega)
                exact .inl ⟨_, _, by simp [evE, evEs, c7, asgT, asgTs, itemsOf, asBool]; exact ⟨rfl, rfl⟩, ⟨_, _, rfl⟩, fun p hp => hq p (List.mem_cons_of_mem _ hp), b2, rfl, inv e B1 q1 q2, h⟩
            · rintro σ S' ⟨⟨x, y, rfl⟩, _, b1, rfl, B1, h⟩
              simp only [stp, Option.some.injEq, Prod.mk.injEq] at h
              obtain ⟨e1, e2⟩ := h
              subst e1 e2
              simp
            · rintro d S' ⟨rfl, rfl, rfl⟩
              rfl
          · rw [if_neg hc] at hr
            cases hr
            simp [exSs, exS, evE, evEs, asgT, asgTs, itemsOf, k1, k2, cmpD, c1, c2, q1, asBool, i_mk0, i_mk1, i_mk2, c_str, e_str, c_int, e_int, sName, sMade, bltD, hc]
end
end Hd
end
section
set_option linter.all false
namespace Hd
open ML
/-- all that a going meets -/
structure Wd (Sub : Tm → Prop) (Nm : List Sg) (U : List Tm) : Prop where
  part : ∀ w ts, Sub (.mk w ts) → ∀ t ∈ ts, Sub t
  name : ∀ x, Sub (.nm x) → x ∈ Nm
  made : ∀ w ts, Sub (.mk w ts) → ts ≠ [] → .mk w ts ∈ U
  sh : ∀ t, Sub t → t.sh 1000
  dep : ∀ t, Sub t → t.dep ≤ 20
  ar : ∀ w ts us, Sub (.mk w ts) → Sub (.mk w us) → ts.length = us.length
  nlen : Nm.length < 1000
theorem pigeonS : ∀ (l m : List Sg), l.Nodup → (∀ a ∈ l, a ∈ m) → l.length ≤ m.length
  | [], m, _, _ => by simp
  | a :: r, m, nd, h => by
    have ha := h a (by simp)
    rw [List.nodup_cons] at nd
    have h2 := pigeonS r (m.erase a) nd.2 fun b hb => by
      have ne : b ≠ a := fun e => nd.1 (by rw [← e]; exact hb)
      exact (List.mem_erase_of_ne ne).mpr (h b (List.mem_cons_of_mem _ hb))
    rw [List.length_erase_of_mem ha] at h2
    have : 0 < m.length := List.length_pos_of_mem ha
    simp only [List.length_cons]
    omega
theorem lookup_none {b : Bd} {x : Sg} : b.lookup x = none ↔ x ∉ b.map (·.1) := by
  induction b with
  | nil => simp
  | cons p r ih =>
    obtain ⟨k, v⟩ := p
    by_cases h : x = k
    · subst h; simp [List.lookup]
    · have h2 : (x == k) = false := by simpa using h
      simp only [List.lookup, h2, ih]
      simp [h]
theorem BOk.nodup {b : Bd} (h : BOk b) : (b.map (·.1)).Nodup := by
  induction h with
  | nil => simp
  | snoc h hx ht ih =>
    rename_i b x t
    rw [List.map_append, List.nodup_append]
    refine ⟨ih, by simp, fun a ha b hb => ?_⟩
    simp only [List.map_cons, List.map_nil, List.mem_singleton] at hb
    subst hb
    exact fun e => lookup_none.mp hx (by rw [← e]; exact ha)
section
variable {Sub : Tm → Prop} {Nm : List Sg} {U : List Tm}
theorem Wd.lim (w : Wd Sub Nm U) : Lim Sub (U.length + 2) := ⟨w.part, w.sh, w.dep⟩
theorem Wd.blen (w : Wd Sub Nm U) {b : Bd} (B : BI0 Sub b) : b.length ≤ Nm.length := by
  have := pigeonS (b.map (·.1)) Nm B.ok.nodup fun a ha => by
    cases e : b.lookup a with
    | none => exact absurd ha (lookup_none.mp e)
    | some t => exact w.name _ (B.dom a t e)
  simpa using this
theorem Wd.bin (w : Wd Sub Nm U) {b : Bd} (B : BI0 Sub b) : BIn Sub (U.length + 2) b :=
  ⟨B.ok, B.sol, B.ran, Nat.lt_of_le_of_lt (w.blen B) w.nlen, fun t ht => by have := dep_bound B w.part w.made ht; omega, B.dom⟩
end
/-- what a call that goes tells -/
structure Told (Sub : Tm → Prop) (b : Bd) (P : (Sg → Tm) → Prop) (r : Bool) (b' : Bd) : Prop where
  bi : BI0 Sub b'
  ans : Ans b P r b'
section
variable {W : Nat} {Sub : Tm → Prop} {Nm : List Sg} {U : List Tm}
theorem Wd.joined (w : Wd Sub Nm U) (hW : 1000 ≤ W) {b : Bd} {t u : Tm} (B : BI0 Sub b) (ht : Sub t) (hu : Sub u) : ∃ r b', uni (U.length + 2) b t u = some (r, b') ∧ Told Sub b (fun θ => t.sub θ = u.sub θ) r b' ∧
    ∀ {l : Nat} {S : St}, l < S.length → ∀ {n : Nat}, 2 * U.length + 6 ≤ n → call TT W (n + 1) 7 [t.D, u.D, .loc l] (S.set l b.O) = .ok (.bl r) (S.set l b'.O) := by
  obtain ⟨k, r, b', e⟩ := uni_ex w.name w.part _ _ b t u B ht hu (Nat.le_refl _) (Nat.le_refl _)
  have B' := uni_keep w.part e B ht hu
  have e2 := uni_lev w.part (K := U.length + 2) e B ht hu (.inl (by have := dep_bound B' w.part w.made ht; omega))
  refine ⟨r, b', e2, ⟨B', ?_⟩, fun {l S} hl n hn => ?_⟩
  · exact uni_ans (Sub := Sub) (N := U.length + 2) (fun {k b t u r b'} h B ht hu => w.bin (uni_keep w.part h ⟨B.ok, B.sol, B.ran, B.dom⟩ ht hu)) w.lim e (w.bin B) ht hu
  · exact call_joined w.lim hW (fun {k b t u r b'} h B ht hu => w.bin (uni_keep w.part h ⟨B.ok, B.sol, B.ran, B.dom⟩ ht hu)) hl (w.bin B) ht hu e2 (by omega)
theorem Wd.alike (w : Wd Sub Nm U) (hW : 1000 ≤ W) {b : Bd} {t u : Tm} (B : BI0 Sub b) (ht : Sub t) (hu : Sub u) : ∃ r b', uniL (U.length + 2) b t u = some (r, b') ∧ Told Sub b (fun θ => t.sub θ = u.sub θ) r b' ∧
    ∀ {l : Nat} {S : St}, l < S.length → ∀ {n : Nat}, 2 * U.length + 6 ≤ n → call TT W (n + 1) 19 [t.D, u.D, .loc l] (S.set l b.O) = .ok (.bl r) (S.set l b'.O) := by
  obtain ⟨k, r, b', e⟩ := uniL_ex w.name w.part _ _ b t u B ht hu (Nat.le_refl _) (Nat.le_refl _)
  have B' := uniL_keep w.part e B ht hu
  have e2 := uniL_lev w.part w.ar (K := U.length + 2) e B ht hu (.inl (by have := dep_bound B' w.part w.made ht; omega))
  refine ⟨r, b', e2, ⟨B', ?_⟩, fun {l S} hl n hn => ?_⟩
  · exact uniL_ans w.part w.ar e B ht hu
  · exact call_alike w.lim hW (fun {k b t u r b'} h B ht hu => w.bin (uniL_keep w.part h ⟨B.ok, B.sol, B.ran, B.dom⟩ ht hu)) hl (w.bin B) ht hu e2 (by omega)
/-- a row of pairs, until one says no -/
theorem stp_tot {g : Bd → Tm → Tm → Option (Bool × Bd)} (H : ∀ {b t u}, BI0 Sub b → Sub t → Sub u → ∃ r b', g b t u = some (r, b') ∧ Told Sub b (fun θ => t.sub θ = u.sub θ) r b') : ∀ (l : List (Tm × Tm)) (b : Bd), BI0 Sub b → (∀ p ∈ l, Sub p.1 ∧ Sub p.2) →
    ∃ r b', stp (fun (p : Tm × Tm) b => g b p.1 p.2) l b = some (r, b') ∧ Told Sub b (fun θ => ∀ p ∈ l, p.1.sub θ = p.2.sub θ) r b'
  | [], b, B, _ => ⟨true, b, rfl, B, fun _ h => h, (fun _ _ _ _ z => nomatch z), fun _ h _ => ⟨rfl, h⟩⟩
  | p :: l, b, B, hs => by
    obtain ⟨p1, p2⟩ := hs p (by simp)
    obtain ⟨r, b1, e, B1, A1⟩ := H B p1 p2
    cases r with
    | false => exact ⟨false, b1, stp_no e, B1, A1.back, (fun z => nomatch z), fun θ h hp => A1.full θ h (hp p (by simp))⟩
    | true =>
      obtain ⟨r, b2, e2, B2, A2⟩ := stp_tot H l b1 B1 fun p hp => hs p (List.mem_cons_of_mem _ hp)
      refine ⟨r, b2, by rw [stp_yes (g := fun (p : Tm × Tm) b => g b p.1 p.2) e]; exact e2, B2, fun θ h => A1.back θ (A2.back θ h), fun hr θ h => ?_, fun θ h hp => ?_⟩
      · intro z hz
        rcases List.mem_cons.mp hz with e | e
        · rw [e]; exact A1.sound rfl θ (A2.back θ h)
        · exact A2.sound hr θ h z e
      · obtain ⟨r1, u1⟩ := A1.full θ h (hp p (by simp))
        exact A2.full θ u1 fun z hz => hp z (List.mem_cons_of_mem _ hz)
/-- from nothing bound: yes just where all can be made alike -/
theorem Told.can {l : List (Tm × Tm)} {r : Bool} {b' : Bd} (h : Told Sub [] (fun θ => ∀ p ∈ l, p.1.sub θ = p.2.sub θ) r b') : r = true ↔ ∃ θ : Sg → Tm, ∀ p ∈ l, p.1.sub θ = p.2.sub θ :=
  ⟨fun hr => ⟨_, h.ans.sound hr _ h.bi.sol.bd⟩, fun ⟨θ, hθ⟩ => (h.ans.full θ (fun _ _ z => nomatch z) hθ).1⟩
theorem bi_nil : BI0 Sub [] := ⟨.nil, ⟨(fun _ _ z => nomatch z), fun _ _ => rfl⟩, (fun _ _ z => nomatch z), (fun _ _ z => nomatch z)⟩
end
end Hd
end
section
set_option linter.all false
set_option maxRecDepth 10000
namespace Hd
open ML
/-! ### names of a thing, in order -/
mutual
def Tm.lvs : Tm → List Sg
  | .nm x => [x]
  | .mk _ ts => Tm.lvss ts
def Tm.lvss : List Tm → List Sg
  | [] => []
  | t :: ts => t.lvs ++ Tm.lvss ts
end
theorem Tm.lvss_map : ∀ ts : List Tm, Tm.lvss ts = ts.flatMap Tm.lvs
  | [] => rfl
  | t :: ts => by simp [Tm.lvss, Tm.lvss_map ts]
/-- each one once -/
def ded (acc : List Sg) : List Sg → List Sg
  | [] => acc
  | x :: r => ded (if x ∈ acc then acc else acc ++ [x]) r
theorem ded_app (acc l m : List Sg) : ded acc (l ++ m) = ded (ded acc l) m := by
  induction l generalizing acc with
  | nil => rfl
  | cons x r ih => simp [ded, ih]
mutual
def nds (p : List D) : Tm → List (List D × Tm)
  | .nm x => [(p, .nm x)]
  | .mk w ts => (p, .mk w ts) :: ndss p 0 ts
def ndss (p : List D) (i : Nat) : List Tm → List (List D × Tm)
  | [] => []
  | t :: ts => nds (p ++ [.int i]) t ++ ndss p (i + 1) ts
end
theorem ndss_zip (p : List D) : ∀ (ts : List Tm) (i : Nat), ndss p i ts = (ts.zipIdx i).flatMap fun q => nds (p ++ [.int q.2]) q.1
  | [], i => rfl
  | t :: ts, i => by simp [ndss, ndss_zip p ts, List.zipIdx_cons]
def ndD (q : List D × Tm) : D := .tup [.tup q.1, q.2.D]
mutual
theorem nds_len (p : List D) : ∀ t : Tm, (nds p t).length = t.sz
  | .nm x => by simp [nds, Tm.sz]
  | .mk w ts => by simp [nds, Tm.sz, ndss_len p 0 ts]
theorem ndss_len (p : List D) (i : Nat) : ∀ ts : List Tm, (ndss p i ts).length = Tm.szs ts
  | [] => by simp [ndss, Tm.szs]
  | t :: ts => by simp [ndss, Tm.szs, nds_len _ t, ndss_len p (i + 1) ts]
end
/-- one more node seen -/
def see (acc : List Sg) : Tm → List Sg
  | .nm x => if x ∈ acc then acc else acc ++ [x]
  | .mk _ _ => acc
mutual
theorem nds_see (p : List D) : ∀ (t : Tm) (acc : List Sg), (nds p t).foldl (fun a q => see a q.2) acc = ded acc t.lvs
  | .nm x, acc => by simp [nds, see, Tm.lvs, ded]
  | .mk w ts, acc => ndss_see p 0 ts acc
theorem ndss_see (p : List D) (i : Nat) : ∀ (ts : List Tm) (acc : List Sg), (ndss p i ts).foldl (fun a q => see a q.2) acc = ded acc (Tm.lvss ts)
  | [], acc => rfl
  | t :: ts, acc => by simp [ndss, Tm.lvss, nds_see _ t, ndss_see p (i + 1) ts, ded_app]
end
theorem gc_app {S X : St} {d : D} (h : d.und S.length = true) : gc S d (S ++ X) = .ok d S := by
  unfold gc
  simp [h]
theorem c_non : D.non.cmpOk = true := by simp [D.cmpOk, D.und, D.noR, D.depth]
theorem e_non : D.eqp .non .non = true := by simp [D.eqp]
theorem in_s2 {a b c : Sg} {S : St} : inD (.str a) (.tup [.str b, .str c]) S = .ok (b == a || c == a) S := by simp [inD, inItems, D.flat, e_str]
theorem in_i2 {a b c : Int} {S : St} : inD (.int a) (.tup [.int b, .int c]) S = .ok (b == a || c == a) S := by simp [inD, inItems, D.flat, e_int]
theorem mem_strs {x : Sg} {xs : List Sg} : ((xs.map D.str).any fun y => D.eqp y (.str x)) = decide (x ∈ xs) := by
  induction xs with
  | nil => rfl
  | cons a r ih =>
    simp only [List.map_cons, List.any_cons, ih, e_str]
    by_cases h : a = x
    · subst h; simp
    · have : (a == x) = false := by simpa using h
      have h2 : ¬ x = a := fun e => h e.symm
      simp [this, h2]
theorem flat_strs {xs : List Sg} : (xs.map D.str).all D.flat = true := by simp [D.flat]
theorem in_lst {x : Sg} {xs : List Sg} {l : Nat} {S : St} (h : S[l]? = some (.lst (xs.map .str))) : inD (.str x) (.loc l) S = .ok (decide (x ∈ xs)) S := by
  simp only [inD, h, inItems, flat_strs, mem_strs, D.flat]
  simp
theorem idx_tup {xs : List D} {i : Int} {S : St} : idxD (.tup xs) (.int i) S = okO (atI xs i) S := rfl
theorem m_append {xs : List D} {l : Nat} {x : D} {S : St} (h : S[l]? = some (.lst xs)) (hz : xs.length < lim) : mthD .append (.loc l) [x] S = .ok .non (S.set l (.lst (xs ++ [x]))) := by simp [mthD, h, hz]
theorem idx_loc {xs : List D} {l : Nat} {i : Int} {S : St} (h : S[l]? = some (.lst xs)) : idxD (.loc l) (.int i) S = okO (atI xs i) S := by simp [idxD, h]
mutual
theorem und_mono {n m : Nat} (h : n ≤ m) : ∀ d : D, d.und n = true → d.und m = true
  | .tup xs, e => by simp only [D.und] at e ⊢; exact unds_mono h xs e
  | .rol xs, e => by simp only [D.und] at e ⊢; exact unds_mono h xs e
  | .loc l, e => by simp only [D.und, decide_eq_true_eq] at e ⊢; omega
  | .non, _ => by simp [D.und]
  | .bl _, _ => by simp [D.und]
  | .int _, _ => by simp [D.und]
  | .str _, _ => by simp [D.und]
theorem unds_mono {n m : Nat} (h : n ≤ m) : ∀ d : List D, D.unds n d = true → D.unds m d = true
  | [], _ => by simp [D.unds]
  | d :: ds, e => by
    simp only [D.unds, Bool.and_eq_true] at e ⊢
    exact ⟨und_mono h d e.1, unds_mono h ds e.2⟩
end
theorem unds_iff {n : Nat} {ds : List D} : D.unds n ds = true ↔ ∀ d ∈ ds, d.und n = true := by
  induction ds with
  | nil => simp [D.unds]
  | cons d r ih => simp [D.unds, ih]
mutual
theorem nds_und (p : List D) (hp : D.unds 0 p = true) : ∀ t : Tm, ∀ q ∈ nds p t, (ndD q).und 0 = true
  | .nm x, q, hq => by simp only [nds, List.mem_singleton] at hq; subst hq; simp [ndD, D.und, D.unds, hp, Tm.und]
  | .mk w ts, q, hq => by
    simp only [nds, List.mem_cons] at hq
    rcases hq with e | hq
    · subst e; simp [ndD, D.und, D.unds, hp, Tm.und]
    · exact ndss_und p hp 0 ts q hq
theorem ndss_und (p : List D) (hp : D.unds 0 p = true) (i : Nat) : ∀ ts : List Tm, ∀ q ∈ ndss p i ts, (ndD q).und 0 = true
  | [], q, hq => by simp [ndss] at hq
  | t :: ts, q, hq => by
    simp only [ndss, List.mem_append] at hq
    rcases hq with hq | hq
    · exact nds_und _ (unds_iff.mpr fun d hd => by
        rcases List.mem_append.mp hd with h | h
        · exact unds_iff.mp hp d h
        · simp only [List.mem_singleton] at h; subst h; simp [D.und]) t q hq
    · exact ndss_und p hp (i + 1) ts q hq
end
section
variable {W : Nat}
theorem call_parts (t : Tm) (n : Nat) (S : St) : call TT W (n + 1) 0 [t.D] S = .ok (match t with | .nm _ => .tup [] | .mk _ ts => .tup (Tm.Ds ts)) S := by
  show runFn TT W (call TT W n) f_parts_of _ S = _
  refine run_to rfl ?_
  unfold f_parts_of
  cases t with
  | nm x => simp [exSs, exS, evE, evEs, evL, evIt, evC, evO, asgT, asgTs, wipe, itemsOf, idx_tup, atI, ixN, okO, cmpD, asBool, lstAt, mOk, gc_self, okG, c_str, c_int, c_non, e_str, e_int, e_non, rngD, mkLst, i_nm0, i_nm1, in_s2, sName, finD]
  | mk w ts => simp [exSs, exS, evE, evEs, evL, evIt, evC, evO, asgT, asgTs, wipe, itemsOf, idx_tup, atI, ixN, okO, cmpD, asBool, lstAt, mOk, gc_self, okG, c_str, c_int, c_non, e_str, e_int, e_non, rngD, mkLst, i_mk0, i_mk1, i_mk2, in_s2, sMade, finD]
theorem call_nodes : ∀ (t : Tm) (n : Nat) (p : List D) (xs : List D) (l : Nat) (S : St), t.dep + 1 < n → S[l]? = some (.lst xs) → xs.length + t.sz ≤ lim → p.length + t.dep ≤ 1000 →
    call TT W n 1 [.loc l, .tup p, t.D] S = .ok .non (S.set l (.lst (xs ++ (nds p t).map ndD))) := by
  intro t
  induction t using Tm.ind with
  | hn x =>
    intro n p xs l S hn hl hz hp
    obtain ⟨n, rfl⟩ : ∃ m, n = m + 2 := ⟨n - 2, by omega⟩
    have h0 := call_parts (W := W) (.nm x) n
    have hlt : l < S.length := (List.getElem?_eq_some_iff.mp hl).1
    have hx : xs.length < lim := by simp only [Tm.sz] at hz; omega
    show runFn TT W (call TT W (n + 1)) f_add_nodes _ S = _
    refine run_to rfl ?_
    unfold f_add_nodes
    simp [exSs, exS, evE, evEs, evL, evIt, evC, evO, asgT, asgTs, wipe, itemsOf, idx_tup, atI, ixN, okO, cmpD, asBool, lstAt, mOk, gc_self, okG, c_str, c_int, c_non, e_str, e_int, e_non, rngD, mkLst, mthD, hl, hx, h0, forD, nds, ndD, finD, gc_len]
  | hm w ts ih =>
    intro n p xs l S hn hl hz hp
    obtain ⟨n, rfl⟩ : ∃ m, n = m + 2 := ⟨n - 2, by omega⟩
    have h0 := call_parts (W := W) (.mk w ts) n
    have hlt : l < S.length := (List.getElem?_eq_some_iff.mp hl).1
    have hx : xs.length < lim := by simp only [Tm.sz] at hz; omega
    show runFn TT W (call TT W (n + 1)) f_add_nodes _ S = _
    generalize hR : xs ++ (nds p (.mk w ts)).map ndD = R
    have hzR : R.length ≤ lim := by rw [← hR]; simp [nds_len]; exact hz
    refine run_to rfl ?_
    unfold f_add_nodes
    simp [exSs, exS, evE, evEs, evL, evIt, evC, evO, asgT, asgTs, wipe, itemsOf, idx_tup, atI, ixN, okO, cmpD, asBool, lstAt, mOk, gc_self, okG, c_str, c_int, c_non, e_str, e_int, e_non, rngD, mkLst, mthD, hl, hx, h0, finD]
    rw [Tm.Ds_map, List.zipIdx_map, List.map_map]
    refine forD_to (F := fun q : Tm × Nat => D.tup [.int q.2, q.1.D]) (fun q σ S' => (∃ x y, σ = [some (.loc l), some (.tup p), some (Tm.mk w ts).D, x, y]) ∧ (∀ z ∈ q, z.1 ∈ ts) ∧ ∃ ys, S' = S.set l (.lst ys) ∧ ys ++ (q.flatMap fun z => nds (p ++ [.int z.2]) z.1).map ndD = R) (fun _ _ _ _ => rfl) ?_ ?_ ⟨⟨_, _, rfl⟩, fun z hz => ?_, _, rfl, ?_⟩
    · rintro ⟨t, i⟩ q σ S' ⟨⟨x, y, rfl⟩, hq, ys, rfl, h⟩
      have ht := hq (t, i) (by simp)
      have hd := Tm.dep_le ht
      simp only [Tm.dep] at hn hp
      dsimp only at ht hd
      have hp1 : p.length + 1 ≤ lim := by unfold lim; omega
      have c1 := ih t ht (n + 1) (p ++ [.int i]) ys l (S.set l (.lst ys)) (by omega) (by simp [hlt]) (by
        have := congrArg List.length h
        simp [nds_len] at this
        omega) (by simp; omega)
      simp [exSs, exS, evE, evEs, evL, evIt, evC, evO, asgT, asgTs, wipe, itemsOf, idx_tup, atI, ixN, okO, cmpD, asBool, lstAt, mOk, gc_self, okG, c_str, c_int, c_non, e_str, e_int, e_non, rngD, mkLst, binD, mkTup, hp1, c1]
      exact ⟨fun a b hz => hq _ (List.mem_cons_of_mem _ hz), _, rfl, by rw [← h]; simp⟩
    · rintro σ S' ⟨⟨x, y, rfl⟩, _, ys, rfl, h⟩
      simp at h
      subst h
      simp [gc_len]
    · obtain ⟨a, b⟩ := z
      exact (List.mem_zipIdx' hz).2 ▸ List.getElem_mem _
    · rw [← hR]
      simp [nds, ndss_zip, ndD]
theorem call_nodesOf (t : Tm) (n : Nat) (S : St) (hn : t.dep + 2 < n) (hz : t.sz ≤ lim) (hd : t.dep ≤ 1000) : call TT W n 2 [t.D] S = .ok (.tup ((nds [] t).map ndD)) S := by
  obtain ⟨n, rfl⟩ : ∃ m, n = m + 1 := ⟨n - 1, by omega⟩
  have c1 := call_nodes (W := W) t n [] [] S.length (S ++ [.lst []]) (by omega) (by simp) (by simpa using hz) (by simpa using hd)
  show runFn TT W (call TT W n) f_nodes_of _ S = _
  refine run_to rfl ?_
  unfold f_nodes_of
  simp [exSs, exS, evE, evEs, evL, evIt, evC, evO, asgT, asgTs, wipe, itemsOf, idx_tup, atI, ixN, okO, cmpD, asBool, lstAt, mOk, gc_self, okG, c_str, c_int, c_non, e_str, e_int, e_non, rngD, mkLst, c1, bltD, finD]
  refine gc_app (und_mono (Nat.zero_le _) _ ?_)
  simp only [D.und, unds_iff, List.mem_map]
  rintro d ⟨q, hq, rfl⟩
  exact nds_und [] rfl t q hq
/-- names_of -/
theorem call_names (t : Tm) (n : Nat) (S : St) (hn : t.dep + 3 < n) (hz : t.sz ≤ 1000) (hd : t.dep ≤ 1000) : call TT W n 3 [t.D] S = .ok (.tup ((ded [] t.lvs).map .str)) S := by
  obtain ⟨n, rfl⟩ : ∃ m, n = m + 1 := ⟨n - 1, by omega⟩
  have c1 := call_nodesOf (W := W) t n (S ++ [.lst []]) (by omega) (Nat.le_trans hz (by decide)) hd
  show runFn TT W (call TT W n) f_names_of _ S = _
  refine run_to rfl ?_
  unfold f_names_of
  simp [exSs, exS, evE, evEs, evL, evIt, evC, evO, asgT, asgTs, wipe, itemsOf, idx_tup, atI, ixN, okO, cmpD, asBool, lstAt, mOk, gc_self, okG, c_str, c_int, c_non, e_str, e_int, e_non, rngD, mkLst, c1]
  have fin := nds_see [] t []
  have sz := nds_len [] t
  refine forD_to (F := ndD) (fun q σ S' => (∃ x y, σ = [some t.D, some (.loc S.length), x, y]) ∧ ∃ acc : List Sg, S' = S ++ [.lst (acc.map .str)] ∧ acc.length + q.length ≤ 1000 ∧ q.foldl (fun a q => see a q.2) acc = ded [] t.lvs) (fun _ _ _ _ => rfl) ?_ ?_ ⟨⟨_, _, rfl⟩, [], rfl, by simp [sz]; exact hz, fin⟩
  · rintro ⟨p, u⟩ q σ S' ⟨⟨x, y, rfl⟩, acc, rfl, hz, h⟩
    cases u with
    | mk w ts =>
      simp [exSs, exS, evE, evEs, evL, evIt, evC, evO, asgT, asgTs, wipe, itemsOf, idx_tup, atI, ixN, okO, cmpD, asBool, lstAt, mOk, gc_self, okG, c_str, c_int, c_non, e_str, e_int, e_non, rngD, mkLst, ndD, i_mk0, sMade]
      exact ⟨acc, rfl, by simp at hz; omega, by simpa [see] using h⟩
    | nm x =>
      have hi := in_lst (x := x) (xs := acc) (l := S.length) (S := S ++ [.lst (acc.map .str)]) (by simp)
      have hl : acc.length < lim := by simp at hz; unfold lim; omega
      by_cases hx : x ∈ acc
      · simp [exSs, exS, evE, evEs, evL, evIt, evC, evO, asgT, asgTs, wipe, itemsOf, idx_tup, atI, ixN, okO, cmpD, asBool, lstAt, mOk, gc_self, okG, c_str, c_int, c_non, e_str, e_int, e_non, rngD, mkLst, ndD, i_nm0, i_nm1, sName, hi, hx]
        exact ⟨acc, rfl, by simp at hz; omega, by simpa [see, hx] using h⟩
      · simp [exSs, exS, evE, evEs, evL, evIt, evC, evO, asgT, asgTs, wipe, itemsOf, idx_tup, atI, ixN, okO, cmpD, asBool, lstAt, mOk, gc_self, okG, c_str, c_int, c_non, e_str, e_int, e_non, rngD, mkLst, ndD, i_nm0, i_nm1, sName, hi, hx, hl, mthD]
        exact ⟨acc ++ [x], by simp, by simp at hz ⊢; omega, by simpa [see, hx] using h⟩
  · rintro σ S' ⟨⟨x, y, rfl⟩, acc, rfl, hz, h⟩
    simp at h
    subst h
    simp [exSs, exS, evE, evEs, evL, evIt, evC, evO, asgT, asgTs, wipe, itemsOf, idx_tup, atI, ixN, okO, cmpD, asBool, lstAt, mOk, gc_self, okG, c_str, c_int, c_non, e_str, e_int, e_non, rngD, mkLst, bltD, finD]
    refine gc_app ?_
    simp only [D.und, unds_iff, List.mem_map]
    rintro d ⟨q, hq, rfl⟩
    simp [D.und]
end
end Hd
end
section
set_option linter.all false
set_option maxRecDepth 10000
namespace Hd
open ML
theorem ded_filter (acc : List Sg) : ∀ (l b : List Sg), ded (acc ++ b.filter fun x => decide (x ∉ acc)) l = acc ++ (ded b l).filter fun x => decide (x ∉ acc)
  | [], b => rfl
  | x :: r, b => by
    simp only [ded]
    by_cases ha : x ∈ acc
    · have h1 : x ∈ acc ++ b.filter fun x => decide (x ∉ acc) := by simp [ha]
      rw [if_pos h1]
      by_cases hb : x ∈ b
      · rw [if_pos hb]; exact ded_filter acc r b
      · rw [if_neg hb, ← ded_filter acc r (b ++ [x])]
        congr 1
        simp [List.filter_append, ha]
    · by_cases hb : x ∈ b
      · rw [if_pos (by simp [ha, hb]), if_pos hb]; exact ded_filter acc r b
      · rw [if_neg (by simp [ha, hb]), if_neg hb, ← ded_filter acc r (b ++ [x])]
        congr 1
        simp [List.filter_append, ha]
theorem ded_of (acc l : List Sg) : ded acc l = acc ++ (ded [] l).filter fun x => decide (x ∉ acc) := by
  have := ded_filter acc l []
  simpa using this
theorem ded_mem {acc l : List Sg} {x : Sg} : x ∈ ded acc l ↔ x ∈ acc ∨ x ∈ l := by
  induction l generalizing acc with
  | nil => simp [ded]
  | cons y r ih =>
    simp only [ded, ih]
    by_cases hy : y ∈ acc
    · rw [if_pos hy]
      simp only [List.mem_cons]
      constructor
      · rintro (h | h)
        · exact .inl h
        · exact .inr (.inr h)
      · rintro (h | h | h)
        · exact .inl h
        · exact .inl (h ▸ hy)
        · exact .inr h
    · rw [if_neg hy]
      simp [or_assoc]
theorem ded_nodup {acc l : List Sg} (h : acc.Nodup) : (ded acc l).Nodup := by
  induction l generalizing acc with
  | nil => exact h
  | cons y r ih =>
    simp only [ded]
    by_cases hy : y ∈ acc
    · rw [if_pos hy]; exact ih h
    · rw [if_neg hy]
      refine ih (List.nodup_append.mpr ⟨h, by simp, fun a ha b hb => ?_⟩)
      simp only [List.mem_singleton] at hb
      subst hb
      exact fun e => hy (e ▸ ha)
theorem ded_pre (acc l : List Sg) : ∃ r, ded acc l = acc ++ r := ⟨_, ded_of acc l⟩
theorem occ_lvs {x : Sg} (t : Tm) : t.occ x = true ↔ x ∈ t.lvs := by
  induction t using Tm.ind with
  | hn y => simp [Tm.occ, Tm.lvs]; exact eq_comm
  | hm w ts ih =>
    simp only [Tm.occ, Tm.occs_any, List.any_eq_true, Tm.lvs, Tm.lvss_map, List.mem_flatMap]
    exact ⟨fun ⟨t, h, e⟩ => ⟨t, h, (ih t h).mp e⟩, fun ⟨t, h, e⟩ => ⟨t, h, (ih t h).mpr e⟩⟩
/-! ### answers -/
abbrev Fs := List (Sg × Tm)
def flD (p : Sg × Tm) : D := .tup [.str p.1, p.2.D]
def Fs.D (fs : Fs) : ML.D := .tup (fs.map flD)
def anD (fs : Fs) (w : Sg) (i : Int) : ML.D := .tup [fs.D, (Tm.mk w []).D, .tup [.str [115, 107, 105, 112]], .int i, .tup []]
theorem comp_own {acc : List Sg} (l : List Sg) : (l.flatMap fun x => if x ∈ acc then [] else [D.str x]) = ((l.filter fun x => decide (x ∉ acc)).map D.str) := by
  induction l with
  | nil => rfl
  | cons a r ih =>
    by_cases h : a ∈ acc <;> simp [List.flatMap_cons, List.filter_cons, h, ih]
section
variable {W : Nat}
/-- own_names -/
theorem call_own (fs : Fs) (w : Sg) (i : Int) (n : Nat) (S : St) (hn : ∀ p ∈ fs, p.2.dep + 4 < n) (hn5 : 6 < n) (hz : ∀ p ∈ fs, p.2.sz ≤ 1000) (hd : ∀ p ∈ fs, p.2.dep ≤ 1000) (hf : fs.length ≤ 100) (hl : (ded [] (fs.flatMap fun p => p.2.lvs)).length ≤ 1000) :
    call TT W n 9 [anD fs w i] S = .ok (.loc S.length) (S ++ [.lst ((ded [] (fs.flatMap fun p => p.2.lvs)).map .str)]) := by
  obtain ⟨n, rfl⟩ : ∃ m, n = m + 1 := ⟨n - 1, by omega⟩
  have hll : fs.length + 1 ≤ lim := by unfold lim; omega
  show runFn TT W (call TT W n) f_own_names _ S = _
  refine run_to rfl ?_
  unfold f_own_names anD Fs.D
  simp [exSs, exS, evE, evEs, evL, evIt, evC, evO, asgT, asgTs, wipe, itemsOf, idx_tup, atI, ixN, okO, cmpD, asBool, lstAt, mOk, gc_self, okG, c_str, c_int, c_non, e_str, e_int, e_non, rngD, mkLst]
  refine lft_to ?_
  simp [exSs, exS, evE, evEs, evL, evIt, evC, evO, asgT, asgTs, wipe, itemsOf, idx_tup, atI, ixN, okO, cmpD, asBool, lstAt, mOk, gc_self, okG, c_str, c_int, c_non, e_str, e_int, e_non, rngD, mkLst]
  refine compD_to (F := flD) (fun q a S' => S' = S ++ [.lst []] ∧ ∃ d, fs = d ++ q ∧ a = d.map fun p => p.2.D) ⟨rfl, [], rfl, rfl⟩ (fun _ _ _ _ => rfl) ?_ ?_
  · rintro p q a S' ⟨rfl, d, e, rfl⟩
    simp [exSs, exS, evE, evEs, evL, evIt, evC, evO, asgT, asgTs, wipe, itemsOf, idx_tup, atI, ixN, okO, cmpD, asBool, lstAt, mOk, gc_self, okG, c_str, c_int, c_non, e_str, e_int, e_non, rngD, mkLst, flD]
    exact ⟨d ++ [p], by rw [e]; simp, by simp⟩
  · rintro a S' ⟨rfl, d, e, rfl⟩
    simp at e
    subst e
    simp [exSs, exS, evE, evEs, evL, evIt, evC, evO, asgT, asgTs, wipe, itemsOf, idx_tup, atI, ixN, okO, cmpD, asBool, lstAt, mOk, gc_self, okG, c_str, c_int, c_non, e_str, e_int, e_non, rngD, mkLst, hll]
    have hm : ∀ fs : Fs, (fs.map fun p => p.2.D) ++ [(Tm.mk w []).D] = (fs.map (·.2) ++ [Tm.mk w []]).map Tm.D := fun fs => by simp
    rw [hm]
    refine forD_to (F := Tm.D) (fun q σ S' => (∃ x y z, σ = [some (anD fs w i), some (.loc S.length), x, y, z]) ∧ (∀ t ∈ q, t.dep + 4 < n + 1 ∧ t.sz ≤ 1000 ∧ t.dep ≤ 1000) ∧ ∃ acc : List Sg, S' = S ++ [.lst (acc.map .str)] ∧ ded acc (q.flatMap Tm.lvs) = ded [] (fs.flatMap fun p => p.2.lvs)) (fun _ _ _ _ => rfl) ?_ ?_ ⟨⟨_, _, _, rfl⟩, fun t ht => ?_, [], rfl, ?_⟩
    · rintro t q σ S' ⟨⟨x, y, z, rfl⟩, hq, acc, rfl, h⟩
      obtain ⟨h1, h2, h3⟩ := hq t (by simp)
      have c1 := call_names (W := W) t n (S ++ [.lst (acc.map .str)]) (by omega) h2 h3
      simp [exSs, exS, evE, evEs, evL, evIt, evC, evO, asgT, asgTs, wipe, itemsOf, idx_tup, atI, ixN, okO, cmpD, asBool, lstAt, mOk, gc_self, okG, c_str, c_int, c_non, e_str, e_int, e_non, rngD, mkLst]
      refine lft_to ?_
      simp [exSs, exS, evE, evEs, evL, evIt, evC, evO, asgT, asgTs, wipe, itemsOf, idx_tup, atI, ixN, okO, cmpD, asBool, lstAt, mOk, gc_self, okG, c_str, c_int, c_non, e_str, e_int, e_non, rngD, mkLst, c1]
      refine compD_to (F := D.str) (fun q a S' => S' = S ++ [.lst (acc.map .str)] ∧ ∃ d, ded [] t.lvs = d ++ q ∧ a = d.flatMap fun x => if x ∈ acc then [] else [D.str x]) ⟨rfl, [], rfl, rfl⟩ (fun _ _ _ _ => rfl) ?_ ?_
      · rintro p q a S' ⟨rfl, d, e, rfl⟩
        have hi := in_lst (x := p) (xs := acc) (l := S.length) (S := S ++ [.lst (acc.map .str)]) (by simp)
        by_cases hp : p ∈ acc
        · simp [exSs, exS, evE, evEs, evL, evIt, evC, evO, asgT, asgTs, wipe, itemsOf, idx_tup, atI, ixN, okO, cmpD, asBool, lstAt, mOk, gc_self, okG, c_str, c_int, c_non, e_str, e_int, e_non, rngD, mkLst, hi, hp]
          exact ⟨d ++ [p], by rw [e]; simp, by simp [hp]⟩
        · simp [exSs, exS, evE, evEs, evL, evIt, evC, evO, asgT, asgTs, wipe, itemsOf, idx_tup, atI, ixN, okO, cmpD, asBool, lstAt, mOk, gc_self, okG, c_str, c_int, c_non, e_str, e_int, e_non, rngD, mkLst, hi, hp]
          exact ⟨d ++ [p], by rw [e]; simp, by simp [hp]⟩
      · rintro a S' ⟨rfl, d, e, rfl⟩
        simp at e
        subst e
        rw [comp_own]
        have hd := ded_of acc t.lvs
        have hlen : (ded acc t.lvs).length ≤ 1000 := by
          rw [List.flatMap_cons, ded_app] at h
          obtain ⟨r, hr⟩ := ded_pre (ded acc t.lvs) (q.flatMap Tm.lvs)
          rw [h] at hr
          have := congrArg List.length hr
          simp only [List.length_append] at this
          omega
        rw [hd] at hlen
        simp only [List.length_append] at hlen
        have hlen2 : acc.length + ((ded [] t.lvs).filter fun x => decide (x ∉ acc)).length ≤ lim := by unfold lim; omega
        simp at hlen2
        simp [exSs, exS, evE, evEs, evL, evIt, evC, evO, asgT, asgTs, wipe, itemsOf, idx_tup, atI, ixN, okO, cmpD, asBool, lstAt, mOk, gc_self, okG, c_str, c_int, c_non, e_str, e_int, e_non, rngD, mkLst, hlen2, mthLD]
        refine ⟨fun t ht => hq t (List.mem_cons_of_mem _ ht), ded acc t.lvs, ?_, ?_⟩
        · rw [hd]; simp
        · rw [← ded_app]; simpa [List.flatMap_cons] using h
    · rintro σ S' ⟨⟨x, y, z, rfl⟩, _, acc, rfl, h⟩
      simp [ded] at h
      subst h
      simp [exSs, exS, evE, evEs, evL, evIt, evC, evO, asgT, asgTs, wipe, itemsOf, idx_tup, atI, ixN, okO, cmpD, asBool, lstAt, mOk, gc_self, okG, c_str, c_int, c_non, e_str, e_int, e_non, rngD, mkLst, finD, gc, D.und]
    · simp only [List.mem_append, List.mem_map, List.mem_singleton] at ht
      rcases ht with ⟨p, hp, rfl⟩ | rfl
      · exact ⟨by have := hn p hp; omega, hz p hp, hd p hp⟩
      · exact ⟨by simp [Tm.dep, Tm.deps]; omega, by simp [Tm.sz, Tm.szs], by simp [Tm.dep, Tm.deps]⟩
    · simp [List.flatMap_append, Tm.lvs, Tm.lvss]
      rw [List.flatMap_map]
end
end Hd
end
section
set_option linter.all false
set_option maxRecDepth 10000
namespace Hd
open ML
/-! ### new names -/
def num (i : Nat) : Sg := strInt (i : Int)
def nmR (q : List Sg) (k : Nat) : List (D × D) := (q.zipIdx k).map fun p => (.str p.1, .str (num (p.2 + 1)))
def NmO (q : List Sg) : O := .dct (nmR q 0)
theorem nmR_cons (x : Sg) (q : List Sg) (k : Nat) : nmR (x :: q) k = (.str x, .str (num (k + 1))) :: nmR q (k + 1) := by simp [nmR, List.zipIdx_cons]
theorem nmR_len (q : List Sg) (k : Nat) : (nmR q k).length = q.length := by simp [nmR]
theorem nmR_snoc (x : Sg) (q : List Sg) (k : Nat) : nmR (q ++ [x]) k = nmR q k ++ [(.str x, .str (num (k + q.length + 1)))] := by
  simp [nmR, List.zipIdx_append]
theorem look_nm {x : Sg} : ∀ (q : List Sg) (k : Nat), lookD (nmR q k) (.str x) = if x ∈ q then some (.str (num (k + q.idxOf x + 1))) else none
  | [], k => by simp [nmR, lookD]
  | y :: q, k => by
    have ih := look_nm (x := x) q (k + 1)
    rw [nmR_cons]
    unfold lookD at ih ⊢
    by_cases h : y = x
    · subst h; simp
    · have h2 : ¬ x = y := fun e => h e.symm
      rw [List.find?_cons_of_neg (by simpa using h), ih]
      have h3 : (y == x) = false := by simpa using h
      simp only [List.mem_cons, h2, false_or, List.idxOf_cons, h3]
      have : k + 1 + q.idxOf x + 1 = k + (q.idxOf x + 1) + 1 := by omega
      simp [this]
/-- new names by their places -/
def ren (q : List Sg) (x : Sg) : Tm := .nm (num (q.idxOf x + 1))
theorem ren_app {q r : List Sg} {x : Sg} (h : x ∈ q) : ren (q ++ r) x = ren q x := by
  unfold ren
  rw [List.idxOf_append]
  simp [h]
theorem sub_ren {q r : List Sg} {t : Tm} (h : ∀ x ∈ t.lvs, x ∈ q) : t.sub (ren (q ++ r)) = t.sub (ren q) := sub_ext t fun x hx => ren_app (h x ((occ_lvs t).mp hx))
theorem set_self {S : St} {l : Nat} {o : O} (h : S[l]? = some o) : S.set l o = S := by
  apply List.ext_getElem?
  intro i
  by_cases e : l = i
  · subst e
    rw [h]
    simp [(List.getElem?_eq_some_iff.mp h).1]
  · simp [List.getElem?_set, e]
theorem set_set {S : St} {l : Nat} {o o' : O} : (S.set l o).set l o' = S.set l o' := by simp
section
variable {W : Nat}
theorem call_resolved {b : Bd} {lb lq : Nat} {Nm : List Sg} (ne : lb ≠ lq) (ok : BOk b) {σ : Sg → Tm} (s : Sol b σ) (hW : b.length < W) (hN : Nm.length < 1000) : ∀ (k n : Nat) (t : Tm) (S : St) (q : List Sg), S[lb]? = some b.O → S[lq]? = some (NmO q) → q.Nodup → (∀ x ∈ q, x ∈ Nm) → (∀ x ∈ (t.sub σ).lvs, x ∈ Nm) → (t.sub σ).dep < k → k ≤ n →
    call TT W (n + 1) 8 [t.D, .loc lb, .loc lq] S = .ok ((t.sub σ).sub (ren (ded q (t.sub σ).lvs))).D (S.set lq (NmO (ded q (t.sub σ).lvs)))
  | 0, n, t, S, q, _, _, _, _, _, h, _ => by omega
  | k + 1, n, t, S, q, hb, hq, nd, hqN, htN, hk, hn => by
    obtain ⟨m, u, w, hm⟩ := walk_ex ok t
    have hu := w.sub s
    obtain ⟨n, rfl⟩ : ∃ m, n = m + 1 := ⟨n - 1, by omega⟩
    have hkn := call_known (W := W) hb w (by omega) n
    have hql : q.length < 1000 := by have := pigeonS q Nm nd hqN; omega
    have hlq : lq < S.length := (List.getElem?_eq_some_iff.mp hq).1
    show runFn TT W (call TT W (n + 1)) f_resolved _ S = _
    refine run_to rfl ?_
    unfold f_resolved
    rw [← hu] at hk htN ⊢
    cases u with
    | nm z =>
      have hz := s.fr z (w.end z rfl)
      simp only [Tm.sub, hz, Tm.lvs, ded]
      have hq' : S[lq]? = some (.dct (nmR q 0)) := hq
      have hlim : (nmR q 0).length < lim := by rw [nmR_len]; unfold lim; omega
      have hlk := look_nm (x := z) q 0
      have hbig : ((nmR q 0).length + 1 : Int).natAbs < 1000000000000000000 := by rw [nmR_len]; omega
      by_cases hz : z ∈ q
      · rw [if_pos hz] at hlk ⊢
        simp only [Nat.zero_add] at hlk
        simp [exSs, exS, evE, evEs, evL, evIt, evC, evO, asgT, asgTs, wipe, itemsOf, idx_tup, atI, ixN, okO, cmpD, asBool, lstAt, mOk, gc_self, okG, c_str, c_int, c_non, e_str, e_int, e_non, rngD, mkLst, mthD, hkn, i_nm0, i_nm1, sName, hq', bltD, binD, keyOk, hlim, hlk, hbig, finD]
        rw [set_self hq]
        exact ⟨rfl, rfl⟩
      · rw [if_neg hz] at hlk ⊢
        have e1 : ren (q ++ [z]) z = .nm (num (q.length + 1)) := by
          unfold ren
          rw [List.idxOf_append]
          simp [hz]
        have e2 : NmO (q ++ [z]) = .dct (nmR q 0 ++ [(.str z, .str (num (q.length + 1)))]) := by
          unfold NmO
          rw [nmR_snoc, Nat.zero_add]
        have e3 : strInt (((nmR q 0).length : Int) + 1) = num (q.length + 1) := by
          rw [nmR_len]; rfl
        simp [exSs, exS, evE, evEs, evL, evIt, evC, evO, asgT, asgTs, wipe, itemsOf, idx_tup, atI, ixN, okO, cmpD, asBool, lstAt, mOk, gc_self, okG, c_str, c_int, c_non, e_str, e_int, e_non, rngD, mkLst, mthD, hkn, i_nm0, i_nm1, sName, hq', bltD, binD, keyOk, hlim, hlk, hbig, finD, e1, e2, e3, gc_set]
        rfl
    | mk w' ts =>
      have hh : ∀ t ∈ ts, (t.sub σ).dep < k ∧ ∀ x ∈ (t.sub σ).lvs, x ∈ Nm := fun t ht => by
        have h1 := Tm.dep_le (ts := Tm.subs σ ts) (t := t.sub σ) (by rw [Tm.subs_map]; exact List.mem_map_of_mem ht)
        refine ⟨by simp [Tm.sub, Tm.dep] at hk; omega, fun x hx => htN x ?_⟩
        simp only [Tm.sub, Tm.lvs, Tm.lvss_map, Tm.subs_map, List.mem_flatMap]
        exact ⟨_, List.mem_map_of_mem ht, hx⟩
      simp only [Tm.sub, Tm.lvs]
      simp [exSs, exS, evE, evEs, evL, evIt, evC, evO, asgT, asgTs, wipe, itemsOf, idx_tup, atI, ixN, okO, cmpD, asBool, lstAt, mOk, gc_self, okG, c_str, c_int, c_non, e_str, e_int, e_non, rngD, mkLst, hkn, i_mk0, i_mk1, i_mk2, sMade, Tm.Ds_map]
      refine lft_to ?_
      simp [exSs, exS, evE, evEs, evL, evIt, evC, evO, asgT, asgTs, wipe, itemsOf, idx_tup, atI, ixN, okO, cmpD, asBool, lstAt, mOk, gc_self, okG, c_str, c_int, c_non, e_str, e_int, e_non, rngD, mkLst, lbD]
      refine compD_to (F := Tm.D) (fun r a S' => ∃ d, ts = d ++ r ∧ S' = S.set lq (NmO (ded q (d.flatMap fun t => (t.sub σ).lvs))) ∧ a = d.map fun t => ((t.sub σ).sub (ren (ded q (d.flatMap fun t => (t.sub σ).lvs)))).D) ⟨[], rfl, by simp [ded, set_self hq], rfl⟩ (fun _ _ _ _ => rfl) ?_ ?_
      · rintro t r a S' ⟨d, e, rfl, rfl⟩
        have ht : t ∈ ts := by rw [e]; simp
        obtain ⟨h1, h2⟩ := hh t ht
        generalize hq1 : ded q (d.flatMap fun t => (t.sub σ).lvs) = q1
        have c := call_resolved ne ok s hW hN k n t (S.set lq (NmO q1)) q1 (by simp [List.getElem?_set, ne.symm, hb]) (by simp [hlq]) (by rw [← hq1]; exact ded_nodup nd) (fun x hx => by
          rw [← hq1, ded_mem] at hx
          rcases hx with hx | hx
          · exact hqN x hx
          · obtain ⟨u, hu, hx⟩ := List.mem_flatMap.mp hx
            exact (hh u (by rw [e]; simp [hu])).2 x hx) h2 h1 (by omega)
        simp [exSs, exS, evE, evEs, evL, evIt, evC, evO, asgT, asgTs, wipe, itemsOf, idx_tup, atI, ixN, okO, cmpD, asBool, lstAt, mOk, gc_self, okG, c_str, c_int, c_non, e_str, e_int, e_non, rngD, mkLst, c]
        have hq2 : ded q1 (t.sub σ).lvs = ded q ((d ++ [t]).flatMap fun t => (t.sub σ).lvs) := by
          rw [← hq1, List.flatMap_append, ded_app]
          simp
        refine ⟨d ++ [t], by rw [e]; simp, by rw [hq2], ?_⟩
        rw [← hq2, List.map_append]
        congr 1
        refine List.map_congr_left fun u hu => ?_
        obtain ⟨r, hr⟩ := ded_pre q1 (t.sub σ).lvs
        rw [hr, sub_ren fun x hx => ?_]
        rw [← hq1, ded_mem]
        exact .inr (List.mem_flatMap.mpr ⟨u, hu, hx⟩)
      · rintro a S' ⟨d, e, rfl, rfl⟩
        simp at e
        subst e
        have hl : Tm.lvss (Tm.subs σ ts) = ts.flatMap fun t => (t.sub σ).lvs := by rw [Tm.lvss_map, Tm.subs_map, List.flatMap_map]
        simp [exSs, exS, evE, evEs, evL, evIt, evC, evO, asgT, asgTs, wipe, itemsOf, idx_tup, atI, ixN, okO, cmpD, asBool, lstAt, mOk, gc_self, okG, c_str, c_int, c_non, e_str, e_int, e_non, rngD, mkLst, finD]
        rw [hl]
        have e2 : (Tm.mk w' (Tm.subs (ren (ded q (ts.flatMap fun t => (t.sub σ).lvs))) (Tm.subs σ ts))).D = .tup [.str sMade, .str w', .tup (ts.map fun t => ((t.sub σ).sub (ren (ded q (ts.flatMap fun t => (t.sub σ).lvs)))).D)] := by
          simp only [Tm.D, Tm.Ds_map, Tm.subs_map, List.map_map]
          rfl
        rw [e2]
        exact gc_set
end
end Hd
end
section
set_option linter.all false
set_option maxRecDepth 10000
namespace Hd
open ML
def nmsOf (fs : Fs) : List Sg := ded [] (fs.flatMap fun p => p.2.lvs)
def halfD (σ : Sg → Tm) (q : List Sg) (s : Sg) (fs : Fs) : D := .tup ((nmsOf fs).map fun x => .tup [.str x, ((σ (s ++ x)).sub (ren q)).D])
def sA : Sg := [97]
def sB : Sg := [98]
def prs (fs gs : Fs) : List (Tm × Tm) := (fs.zip gs).map fun r => (r.1.2.side sA, r.2.2.side sB)
theorem sub_side {Sub : Tm → Prop} (part : ∀ w ts, Sub (.mk w ts) → ∀ t ∈ ts, Sub t) {s x : Sg} (t : Tm) (h : Sub (t.side s)) (hx : x ∈ t.lvs) : Sub (.nm (s ++ x)) := by
  induction t using Tm.ind with
  | hn y =>
    simp only [Tm.lvs, List.mem_singleton] at hx
    subst hx
    exact h
  | hm w ts ih =>
    simp only [Tm.lvs, Tm.lvss_map, List.mem_flatMap] at hx
    obtain ⟨t, ht, hx⟩ := hx
    refine ih t ht (part w _ h _ ?_) hx
    rw [Tm.subs_map]
    exact List.mem_map_of_mem ht
structure Pr (Sub : Tm → Prop) (Nm : List Sg) (U : List Tm) (fs gs : Fs) : Prop where
  wd : Wd Sub Nm U
  nms : fs.map (·.1) = gs.map (·.1)
  sa : ∀ p ∈ fs, Sub (p.2.side sA)
  sb : ∀ p ∈ gs, Sub (p.2.side sB)
  da : ∀ p ∈ fs, p.2.dep ≤ 20 ∧ p.2.sz ≤ 1000 ∧ p.2.sh 1000
  db : ∀ p ∈ gs, p.2.dep ≤ 20 ∧ p.2.sz ≤ 1000 ∧ p.2.sh 1000
  len : fs.length ≤ 10
  la : (nmsOf fs).length ≤ 1000
  lb : (nmsOf gs).length ≤ 1000
  ul : U.length ≤ 60
theorem lvs_names {Sub : Tm → Prop} {Nm : List Sg} {U : List Tm} (w : Wd Sub Nm U) {b : Bd} (B : BI0 Sub b) : ∀ (n : Nat) (t : Tm), (t.sub (sol b)).dep = n → Sub t → ∀ x ∈ (t.sub (sol b)).lvs, x ∈ Nm := by
  intro n
  induction n using Nat.strongRecOn with
  | ind n ih =>
    intro t hn ht x hx
    obtain ⟨m, wk, _⟩ := wlk_wk B.ok t
    have s := walk_sub B.ran wk ht
    have e := wk.sub B.sol
    have en := wk.end
    generalize wlk b t = g at *
    rw [← e] at hn hx
    cases g with
    | nm z =>
      simp only [Tm.sub, B.sol.fr z (en z rfl), Tm.lvs, List.mem_singleton] at hx
      subst hx
      exact w.name _ s
    | mk w' ts =>
      simp only [Tm.sub, Tm.lvs, Tm.lvss_map, Tm.subs_map, List.mem_flatMap, List.mem_map] at hx
      obtain ⟨_, ⟨u, hu, rfl⟩, hx⟩ := hx
      have h1 := Tm.dep_le (ts := Tm.subs (sol b) ts) (t := u.sub (sol b)) (by rw [Tm.subs_map]; exact List.mem_map_of_mem hu)
      simp only [Tm.sub, Tm.dep] at hn
      exact ih _ (by omega) u rfl (w.part _ _ s u hu) x hx
theorem eqps_self : ∀ l : List Sg, D.eqps (l.map .str) (l.map .str) = true
  | [] => by simp [D.eqps]
  | x :: l => by simp [D.eqps, e_str, eqps_self l]
theorem noRs_str : ∀ l : List Sg, D.noRs (l.map .str) = true
  | [] => by simp [D.noRs]
  | x :: l => by simp [D.noRs, D.noR, noRs_str l]
theorem unds_str {n : Nat} : ∀ l : List Sg, D.unds n (l.map .str) = true
  | [] => by simp [D.unds]
  | x :: l => by simp [D.unds, D.und, unds_str l]
theorem depths_str : ∀ l : List Sg, D.depths (l.map .str) = 0
  | [] => by simp [D.depths]
  | x :: l => by simp [D.depths, D.depth, depths_str l]
theorem cmpL_self {l : List Sg} {S : St} : cmpLD true (l.map .str) (l.map .str) S = .ok (.bl false) S := by
  unfold cmpLD
  simp only [eqps_self, noRs_str, unds_str, depths_str]
  cases l <;> simp
theorem zip_maps (fs gs : Fs) : ((fs.map flD).zip (gs.map flD)).map (fun r => D.tup [r.1, r.2]) = (fs.zip gs).map fun r => D.tup [flD r.1, flD r.2] := by
  rw [List.zip_map, List.map_map]
  rfl
theorem set_last {S : St} {o o' : O} : (S ++ [o]).set S.length o' = S ++ [o'] := by simp
section
variable {S X : St} {a b c o : O}
theorem st0 : (S ++ a :: b :: c :: X)[S.length]? = some a := by rw [List.getElem?_append_right (by omega)]; simp
theorem st1 : (S ++ a :: b :: c :: X)[S.length + 1]? = some b := by
  rw [List.getElem?_append_right (by omega), show S.length + 1 - S.length = 1 by omega]; rfl
theorem st2 : (S ++ a :: b :: c :: X)[S.length + 2]? = some c := by
  rw [List.getElem?_append_right (by omega), show S.length + 2 - S.length = 2 by omega]; rfl
theorem st3 : (S ++ a :: b :: c :: (X ++ [o]))[S.length + (X.length + 1 + 1 + 1)]? = some o := by
  rw [List.getElem?_append_right (by omega), show S.length + (X.length + 1 + 1 + 1) - S.length = X.length + 1 + 1 + 1 by omega]
  simp
theorem su1 : (S ++ a :: b :: c :: X).set (S.length + 1) o = S ++ a :: o :: c :: X := by
  rw [List.set_append_right _ _ (by omega), show S.length + 1 - S.length = 1 by omega]; rfl
theorem su2 : (S ++ a :: b :: c :: X).set (S.length + 2) o = S ++ a :: b :: o :: X := by
  rw [List.set_append_right _ _ (by omega), show S.length + 2 - S.length = 2 by omega]; rfl
end
theorem half_ren {σ : Sg → Tm} {q r : List Sg} {s : Sg} {fs : Fs} (h : ∀ x ∈ nmsOf fs, ∀ y ∈ (σ (s ++ x)).lvs, y ∈ q) : halfD σ (q ++ r) s fs = halfD σ q s fs := by
  unfold halfD
  congr 1
  refine List.map_congr_left fun x hx => ?_
  rw [sub_ren (h x hx)]
section
variable {W : Nat} {Sub : Tm → Prop} {Nm : List Sg} {U : List Tm} {fs gs : Fs}
theorem Pr.und (σ : Sg → Tm) (q : List Sg) (s : Sg) (n : Nat) : (halfD σ q s fs).und n = true := by
  simp only [halfD, D.und, unds_iff, List.mem_map]
  rintro d ⟨x, _, rfl⟩
  simp only [D.und, D.unds, Bool.and_true, Bool.true_and]
  exact und_mono (Nat.zero_le _) _ (Tm.und _)
theorem comp_names (fs : Fs) : ∀ {f : D → St → Out (List D)} {S : St} {Q : List D → St → Prop}, (∀ p ∈ fs, f (flD p) S = .ok [.str p.1] S) → Q ((fs.map (·.1)).map .str) S → (compD [] f (fs.map flD) S).to Q := fun h q => by
  refine ⟨_, _, compD_one (F := flD) (g := fun p => .str p.1) h, by rw [List.map_map] at q; exact q⟩
theorem call_common (P : Pr Sub Nm U fs gs) (hW : 1000 ≤ W) (w w' : Sg) (i i' : Int) (n : Nat) (S : St) (hn : 2 * U.length + 40 ≤ n) : ∃ r b', Told Sub [] (fun θ => ∀ p ∈ prs fs gs, p.1.sub θ = p.2.sub θ) r b' ∧
    ∀ q, q = ded [] ((nmsOf fs).flatMap (fun x => (sol b' (sA ++ x)).lvs) ++ (nmsOf gs).flatMap (fun x => (sol b' (sB ++ x)).lvs)) → call TT W n 25 [anD fs w i, anD gs w' i'] S = .ok (if r then .tup [halfD (sol b') q sA fs, halfD (sol b') q sB gs] else .non) S := by
  obtain ⟨n, rfl⟩ : ∃ m, n = m + 2 := ⟨n - 2, by omega⟩
  have hp : ∀ p ∈ prs fs gs, Sub p.1 ∧ Sub p.2 := fun p hp => by
    obtain ⟨r, hr, rfl⟩ := List.mem_map.mp hp
    exact ⟨P.sa _ (List.of_mem_zip hr).1, P.sb _ (List.of_mem_zip hr).2⟩
  obtain ⟨r, b', e, T⟩ := stp_tot (g := fun b t u => uni (U.length + 2) b t u) (fun B ht hu => by
    obtain ⟨r, b', e, T, _⟩ := P.wd.joined hW B ht hu
    exact ⟨r, b', e, T⟩) (prs fs gs) [] bi_nil hp
  refine ⟨r, b', T, fun q hq => ?_⟩
  show runFn TT W (call TT W (n + 1)) f_common _ S = _
  refine run_to rfl ?_
  unfold f_common
  simp [exSs, exS, evE, evEs, evL, evIt, evC, evO, asgT, asgTs, wipe, itemsOf, idx_tup, atI, ixN, okO, cmpD, asBool, lstAt, mOk, gc_self, okG, c_str, c_int, c_non, e_str, e_int, e_non, rngD, mkLst]
  refine lft_to ?_
  unfold anD Fs.D
  simp [exSs, exS, evE, evEs, evL, evIt, evC, evO, asgT, asgTs, wipe, itemsOf, idx_tup, atI, ixN, okO, cmpD, asBool, lstAt, mOk, gc_self, okG, c_str, c_int, c_non, e_str, e_int, e_non, rngD, mkLst]
  refine comp_names fs (fun p hp => by simp [exSs, exS, evE, evEs, evL, evIt, evC, evO, asgT, asgTs, wipe, itemsOf, idx_tup, atI, ixN, okO, cmpD, asBool, lstAt, mOk, gc_self, okG, c_str, c_int, c_non, e_str, e_int, e_non, rngD, mkLst, flD]) ?_
  refine comp_names gs (fun p hp => by simp [exSs, exS, evE, evEs, evL, evIt, evC, evO, asgT, asgTs, wipe, itemsOf, idx_tup, atI, ixN, okO, cmpD, asBool, lstAt, mOk, gc_self, okG, c_str, c_int, c_non, e_str, e_int, e_non, rngD, mkLst, flD]) ?_
  rw [P.nms, cmpL_self]
  simp [exSs, exS, evE, evEs, evL, evIt, evC, evO, asgT, asgTs, wipe, itemsOf, idx_tup, atI, ixN, okO, cmpD, asBool, lstAt, mOk, gc_self, okG, c_str, c_int, c_non, e_str, e_int, e_non, rngD, mkLst]
  rw [zip_maps]
  refine forD_to (F := fun r : (Sg × Tm) × (Sg × Tm) => D.tup [flD r.1, flD r.2]) (fun l σ S' => (∃ x y, σ = [some (anD fs w i), some (anD gs w' i'), some (.loc S.length), x, y, none, none, none, none, none, none, none]) ∧ (∀ z ∈ l, z ∈ fs.zip gs) ∧
    ∃ b1, S' = S ++ [b1.O] ∧ BI0 Sub b1 ∧ stp (fun (p : Tm × Tm) b => uni (U.length + 2) b p.1 p.2) (l.map fun r => (r.1.2.side sA, r.2.2.side sB)) b1 = some (r, b')) (fun _ _ _ _ => rfl) ?_ ?_ ⟨⟨_, _, rfl⟩, fun _ h => h, [], rfl, bi_nil, e⟩
  · rintro z l σ S' ⟨⟨x, y, rfl⟩, hl, b1, rfl, B1, h⟩
    have hz := List.of_mem_zip (hl z (by simp))
    obtain ⟨d1, _, s1⟩ := P.da _ hz.1
    obtain ⟨d2, _, s2⟩ := P.db _ hz.2
    have q1 := P.sa _ hz.1
    have q2 := P.sb _ hz.2
    have c1 := fun S => call_side (W := W) (s := [97]) (by simp) z.1.2 (n + 1) S (by omega) s1
    have c2 := fun S => call_side (W := W) (s := [98]) (by simp) z.2.2 (n + 1) S (by omega) s2
    obtain ⟨r2, b2, e2, T2, c3⟩ := P.wd.joined hW B1 q1 q2
    have c3 := c3 (l := S.length) (S := S ++ [O.dct []]) (by simp) (n := n) (by omega)
    unfold sA sB at c3
    rw [set_last, set_last] at c3
    rcases stp_cons h with ⟨e3, ef⟩ | ⟨b3, e3, h⟩
    · simp only at ef
      subst ef
      rw [e2] at e3
      cases e3
      simp [exSs, exS, evE, evEs, evL, evIt, evC, evO, asgT, asgTs, wipe, itemsOf, idx_tup, atI, ixN, okO, cmpD, asBool, lstAt, mOk, gc_self, okG, c_str, c_int, c_non, e_str, e_int, e_non, rngD, mkLst, flD, c1, c2, c3, finD]
      exact gc_app (by simp [D.und])
    · rw [e2] at e3
      cases e3
      simp [exSs, exS, evE, evEs, evL, evIt, evC, evO, asgT, asgTs, wipe, itemsOf, idx_tup, atI, ixN, okO, cmpD, asBool, lstAt, mOk, gc_self, okG, c_str, c_int, c_non, e_str, e_int, e_non, rngD, mkLst, flD, c1, c2, c3]
      exact ⟨fun a b c d h => hl _ (List.mem_cons_of_mem _ h), b2, rfl, T2.bi, h⟩
  · rintro σ S' ⟨⟨x, y, rfl⟩, _, b1, rfl, B1, h⟩
    simp only [List.map_nil, stp, Option.some.injEq, Prod.mk.injEq] at h
    obtain ⟨e1, e2⟩ := h
    subst e1 e2
    simp [exSs, exS, evE, evEs, evL, evIt, evC, evO, asgT, asgTs, wipe, itemsOf, idx_tup, atI, ixN, okO, cmpD, asBool, lstAt, mOk, gc_self, okG, c_str, c_int, c_non, e_str, e_int, e_non, rngD, mkLst]
    generalize hits : ([(fs, w, i, sA), (gs, w', i', sB)] : List (Fs × Sg × Int × Sg)) = its
    let F : Fs × Sg × Int × Sg → D := fun it => .tup [anD it.1 it.2.1 it.2.2.1, .str it.2.2.2]
    let Q : List (Fs × Sg × Int × Sg) → List Sg := fun d => ded [] (d.flatMap fun it => (nmsOf it.1).flatMap fun x => (sol b1 (it.2.2.2 ++ x)).lvs)
    have hF : [D.tup [anD fs w i, .str [97]], D.tup [anD gs w' i', .str [98]]] = its.map F := by rw [← hits]; rfl
    have hq' : q = Q its := by rw [hq, ← hits]; simp [Q]
    have hI : ∀ it ∈ its, (∀ p ∈ it.1, p.2.dep ≤ 20 ∧ p.2.sz ≤ 1000) ∧ it.1.length ≤ 10 ∧ (nmsOf it.1).length ≤ 1000 ∧ it.2.2.2.length = 1 ∧ ∀ x ∈ nmsOf it.1, Sub (.nm (it.2.2.2 ++ x)) := by
      rw [← hits]
      intro it hit
      have nx : ∀ {hs : Fs} {s x : Sg}, (∀ p ∈ hs, Sub (p.2.side s)) → x ∈ nmsOf hs → Sub (.nm (s ++ x)) := fun h hx => by
        unfold nmsOf at hx
        rw [ded_mem] at hx
        rcases hx with hx | hx
        · cases hx
        · obtain ⟨p, hp, hx⟩ := List.mem_flatMap.mp hx
          exact sub_side P.wd.part _ (h p hp) hx
      simp only [List.mem_cons, List.not_mem_nil, or_false] at hit
      rcases hit with rfl | rfl
      · exact ⟨fun p hp => ⟨(P.da p hp).1, (P.da p hp).2.1⟩, P.len, P.la, rfl, fun x hx => nx P.sa hx⟩
      · refine ⟨fun p hp => ⟨(P.db p hp).1, (P.db p hp).2.1⟩, ?_, P.lb, rfl, fun x hx => nx P.sb hx⟩
        have := congrArg List.length P.nms
        simp only [List.length_map] at this
        rw [← this]
        exact P.len
    have hE : D.tup [halfD (sol b1) q sA fs, halfD (sol b1) q sB gs] = .tup (its.map fun it => halfD (sol b1) q it.2.2.2 it.1) := by rw [← hits]; rfl
    have hlen : its.length = 2 := by rw [← hits]; rfl
    rw [hF]
    refine forD_to (F := F) (fun l σ S' => (∃ x' y' z', σ = [some (anD fs w i), some (anD gs w' i'), some (.loc S.length), x, y, some (.loc (S.length + 1)), some (.loc (S.length + 2)), x', y', z', none, none]) ∧
      ∃ d X, its = d ++ l ∧ S' = S ++ b1.O :: NmO (Q d) :: .lst (d.map fun it => halfD (sol b1) (Q d) it.2.2.2 it.1) :: X) (fun _ _ _ _ => rfl) ?_ ?_ ⟨⟨_, _, _, rfl⟩, [], [], rfl, rfl⟩
    · rintro it l σ S' ⟨⟨x', y', z', rfl⟩, d, X, e1, rfl⟩
      obtain ⟨h1, h2, h3, h4, h5⟩ := hI it (by rw [e1]; simp)
      generalize hH : d.map (fun it => halfD (sol b1) (Q d) it.2.2.2 it.1) = H
      have own := call_own (W := W) it.1 it.2.1 it.2.2.1 (n + 1) (S ++ b1.O :: NmO (Q d) :: .lst H :: X) (fun p hp => by have := (h1 p hp).1; omega) (by omega) (fun p hp => (h1 p hp).2) (fun p hp => by have := (h1 p hp).1; omega) (by omega) h3
      rw [show ded [] (it.1.flatMap fun p => p.2.lvs) = nmsOf it.1 from rfl] at own
      have hHl : H.length < lim := by
        have := congrArg List.length e1
        simp only [List.length_append, hlen] at this
        rw [← hH, List.length_map]
        unfold lim
        omega
      have hQN : ∀ y ∈ Q d, y ∈ Nm := fun y hy => by
        simp only [Q, ded_mem] at hy
        rcases hy with hy | hy
        · cases hy
        · obtain ⟨it', hit, hy⟩ := List.mem_flatMap.mp hy
          obtain ⟨x, hx, hy⟩ := List.mem_flatMap.mp hy
          exact lvs_names P.wd B1 _ (.nm (it'.2.2.2 ++ x)) rfl ((hI it' (by rw [e1]; simp [hit])).2.2.2.2 x hx) y (by simpa [Tm.sub] using hy)
      have hQd : (Q d).Nodup := ded_nodup (by simp)
      have hb1 : b1.length < W := by have := P.wd.blen B1; have := P.wd.nlen; omega
      simp [exSs, exS, evE, evEs, evL, evIt, evC, evO, asgT, asgTs, wipe, itemsOf, idx_tup, atI, ixN, okO, cmpD, asBool, lstAt, mOk, gc_self, okG, c_str, c_int, c_non, e_str, e_int, e_non, rngD, mkLst, F, own, st2]
      refine lft_to ?_
      simp [exSs, exS, evE, evEs, evL, evIt, evC, evO, asgT, asgTs, wipe, itemsOf, idx_tup, atI, ixN, okO, cmpD, asBool, lstAt, mOk, gc_self, okG, c_str, c_int, c_non, e_str, e_int, e_non, rngD, mkLst, lbD]
      refine compD_to (F := D.str) (fun l' a S'' => ∃ e, nmsOf it.1 = e ++ l' ∧ S'' = S ++ b1.O :: NmO (ded (Q d) (e.flatMap fun x => (sol b1 (it.2.2.2 ++ x)).lvs)) :: .lst H :: (X ++ [.lst ((nmsOf it.1).map .str)]) ∧
        a = e.map fun x => .tup [.str x, ((sol b1 (it.2.2.2 ++ x)).sub (ren (ded (Q d) (e.flatMap fun x => (sol b1 (it.2.2.2 ++ x)).lvs)))).D]) ⟨[], rfl, rfl, rfl⟩ ?_ ?_ ?_
      · rintro l' a S'' ⟨e, _, rfl, _⟩
        simp [Gd.ok, st3]
      · rintro v l' a S'' ⟨e, e2, rfl, rfl⟩
        have hv : v ∈ nmsOf it.1 := by rw [e2]; simp
        have hS := h5 v hv
        generalize hqe : ded (Q d) (e.flatMap fun x => (sol b1 (it.2.2.2 ++ x)).lvs) = qe
        have c := call_resolved (W := W) (lb := S.length) (lq := S.length + 1) (by omega) B1.ok B1.sol hb1 P.wd.nlen (U.length + 2) n (.nm (it.2.2.2 ++ v)) (S ++ b1.O :: NmO qe :: .lst H :: (X ++ [.lst ((nmsOf it.1).map .str)])) qe st0 st1 (by rw [← hqe]; exact ded_nodup hQd) (fun y hy => by
          rw [← hqe, ded_mem] at hy
          rcases hy with hy | hy
          · exact hQN y hy
          · obtain ⟨x, hx, hy⟩ := List.mem_flatMap.mp hy
            exact lvs_names P.wd B1 _ (.nm (it.2.2.2 ++ x)) rfl (h5 x (by rw [e2]; simp [hx])) y (by simpa [Tm.sub] using hy)) (fun y hy => lvs_names P.wd B1 _ _ rfl hS y hy) (by have := dep_bound B1 P.wd.part P.wd.made hS; omega) (by omega)
        have hvl : it.2.2.2.length + v.length ≤ lim := by
          have := P.wd.sh _ hS
          simp only [Tm.sh, List.length_append] at this
          unfold lim
          omega
        simp only [Tm.sub, su1, Tm.D, sName] at c
        simp [exSs, exS, evE, evEs, evL, evIt, evC, evO, asgT, asgTs, wipe, itemsOf, idx_tup, atI, ixN, okO, cmpD, asBool, lstAt, mOk, gc_self, okG, c_str, c_int, c_non, e_str, e_int, e_non, rngD, mkLst, binD, mkStr, hvl, c]
        have hq2 : ded qe (sol b1 (it.2.2.2 ++ v)).lvs = ded (Q d) ((e ++ [v]).flatMap fun x => (sol b1 (it.2.2.2 ++ x)).lvs) := by
          rw [← hqe, List.flatMap_append, ded_app]
          simp
        refine ⟨e ++ [v], by rw [e2]; simp, by rw [hq2], ?_⟩
        rw [← hq2, List.map_append]
        congr 1
        refine List.map_congr_left fun u hu => ?_
        obtain ⟨r, hr⟩ := ded_pre qe (sol b1 (it.2.2.2 ++ v)).lvs
        rw [hr, sub_ren fun x hx => ?_]
        rw [← hqe, ded_mem]
        exact .inr (List.mem_flatMap.mpr ⟨u, hu, hx⟩)
      · rintro a S'' ⟨e, e2, rfl, rfl⟩
        simp only [List.append_nil] at e2
        subst e2
        have hQ2 : Q (d ++ [it]) = ded (Q d) ((nmsOf it.1).flatMap fun x => (sol b1 (it.2.2.2 ++ x)).lvs) := by simp [Q, List.flatMap_append, ded_app]
        simp [exSs, exS, evE, evEs, evL, evIt, evC, evO, asgT, asgTs, wipe, itemsOf, idx_tup, atI, ixN, okO, cmpD, asBool, lstAt, mOk, gc_self, okG, c_str, c_int, c_non, e_str, e_int, e_non, rngD, mkLst, m_append st2 hHl, su2]
        refine ⟨d ++ [it], by rw [e1]; simp, by rw [hQ2], ?_⟩
        rw [← hQ2, List.map_append, ← hH]
        congr 1
        refine List.map_congr_left fun it' hit => ?_
        rw [hQ2]
        obtain ⟨r, hr⟩ := ded_pre (Q d) ((nmsOf it.1).flatMap fun x => (sol b1 (it.2.2.2 ++ x)).lvs)
        rw [hr, half_ren fun x hx y hy => ?_]
        simp only [Q, ded_mem]
        exact .inr (List.mem_flatMap.mpr ⟨it', hit, List.mem_flatMap.mpr ⟨x, hx, hy⟩⟩)
    · rintro σ S' ⟨⟨x', y', z', rfl⟩, d, X, e1, rfl⟩
      simp only [List.append_nil] at e1
      subst e1
      have hx := st2 (S := S) (X := X) (a := b1.O) (b := NmO (Q its)) (c := .lst (its.map fun it => halfD (sol b1) (Q its) it.2.2.2 it.1))
      have h2 : ∃ p1 p2, its = [p1, p2] := ⟨_, _, hits.symm⟩
      obtain ⟨p1, p2, h2⟩ := h2
      rw [h2] at hx
      simp only [List.map_cons, List.map_nil] at hx
      rw [hE, hq', h2]
      simp [exSs, exS, evE, evEs, evL, evIt, evC, evO, asgT, asgTs, wipe, itemsOf, idx_tup, atI, ixN, okO, cmpD, asBool, lstAt, mOk, gc_self, okG, c_str, c_int, c_non, e_str, e_int, e_non, rngD, mkLst, idx_loc hx, finD]
      exact gc_app (by simp [D.und, D.unds, Pr.und])
end
end Hd
end
section
set_option linter.all false
set_option maxRecDepth 10000
namespace Hd
open ML
section
variable {W : Nat} {Sub : Tm → Prop} {Nm : List Sg} {U : List Tm} {fs gs : Fs}
/-- the law's own judgement -/
theorem call_can (P : Pr Sub Nm U fs gs) (hW : 1000 ≤ W) (w w' : Sg) (i i' : Int) (n : Nat) (S : St) (hn : 2 * U.length + 40 ≤ n) : ∃ r, (r = true ↔ ∃ θ : Sg → Tm, ∀ p ∈ prs fs gs, p.1.sub θ = p.2.sub θ) ∧ call TT W n 22 [anD fs w i, anD gs w' i'] S = .ok (.bl r) S := by
  obtain ⟨n, rfl⟩ : ∃ m, n = m + 2 := ⟨n - 2, by omega⟩
  have hp : ∀ p ∈ prs fs gs, Sub p.1 ∧ Sub p.2 := fun p hp => by
    obtain ⟨r, hr, rfl⟩ := List.mem_map.mp hp
    exact ⟨P.sa _ (List.of_mem_zip hr).1, P.sb _ (List.of_mem_zip hr).2⟩
  obtain ⟨r, b', e, T⟩ := stp_tot (g := fun b t u => uniL (U.length + 2) b t u) (fun B ht hu => by
    obtain ⟨r, b', e, T, _⟩ := P.wd.alike hW B ht hu
    exact ⟨r, b', e, T⟩) (prs fs gs) [] bi_nil hp
  refine ⟨r, T.can, ?_⟩
  show runFn TT W (call TT W (n + 1)) f__law_can _ S = _
  refine run_to rfl ?_
  unfold f__law_can
  simp [exSs, exS, evE, evEs, evL, evIt, evC, evO, asgT, asgTs, wipe, itemsOf, idx_tup, atI, ixN, okO, cmpD, asBool, lstAt, mOk, gc_self, okG, c_str, c_int, c_non, e_str, e_int, e_non, rngD, mkLst]
  unfold anD Fs.D
  simp [exSs, exS, evE, evEs, evL, evIt, evC, evO, asgT, asgTs, wipe, itemsOf, idx_tup, atI, ixN, okO, cmpD, asBool, lstAt, mOk, gc_self, okG, c_str, c_int, c_non, e_str, e_int, e_non, rngD, mkLst]
  rw [zip_maps]
  refine forD_to (F := fun r : (Sg × Tm) × (Sg × Tm) => D.tup [flD r.1, flD r.2]) (fun l σ S' => (∃ x y, σ = [some (anD fs w i), some (anD gs w' i'), some (.loc S.length), x, y]) ∧ (∀ z ∈ l, z ∈ fs.zip gs) ∧
    ∃ b1, S' = S ++ [b1.O] ∧ BI0 Sub b1 ∧ stp (fun (p : Tm × Tm) b => uniL (U.length + 2) b p.1 p.2) (l.map fun r => (r.1.2.side sA, r.2.2.side sB)) b1 = some (r, b')) (fun _ _ _ _ => rfl) ?_ ?_ ⟨⟨_, _, rfl⟩, fun _ h => h, [], rfl, bi_nil, e⟩
  · rintro z l σ S' ⟨⟨x, y, rfl⟩, hl, b1, rfl, B1, h⟩
    have hz := List.of_mem_zip (hl z (by simp))
    obtain ⟨d1, _, s1⟩ := P.da _ hz.1
    obtain ⟨d2, _, s2⟩ := P.db _ hz.2
    have q1 := P.sa _ hz.1
    have q2 := P.sb _ hz.2
    have c1 := fun S => call_sided (W := W) (s := [97]) (by simp) z.1.2 (n + 1) S (by omega) s1
    have c2 := fun S => call_sided (W := W) (s := [98]) (by simp) z.2.2 (n + 1) S (by omega) s2
    obtain ⟨r2, b2, e2, T2, c3⟩ := P.wd.alike hW B1 q1 q2
    have c3 := c3 (l := S.length) (S := S ++ [O.dct []]) (by simp) (n := n) (by omega)
    unfold sA sB at c3
    rw [set_last, set_last] at c3
    rcases stp_cons h with ⟨e3, ef⟩ | ⟨b3, e3, h⟩
    · simp only at ef
      subst ef
      rw [e2] at e3
      cases e3
      simp [exSs, exS, evE, evEs, evL, evIt, evC, evO, asgT, asgTs, wipe, itemsOf, idx_tup, atI, ixN, okO, cmpD, asBool, lstAt, mOk, gc_self, okG, c_str, c_int, c_non, e_str, e_int, e_non, rngD, mkLst, flD, c1, c2, c3, finD]
      exact gc_app (by simp [D.und])
    · rw [e2] at e3
      cases e3
      simp [exSs, exS, evE, evEs, evL, evIt, evC, evO, asgT, asgTs, wipe, itemsOf, idx_tup, atI, ixN, okO, cmpD, asBool, lstAt, mOk, gc_self, okG, c_str, c_int, c_non, e_str, e_int, e_non, rngD, mkLst, flD, c1, c2, c3]
      exact ⟨fun a b c d h => hl _ (List.mem_cons_of_mem _ h), b2, rfl, T2.bi, h⟩
  · rintro σ S' ⟨⟨x, y, rfl⟩, _, b1, rfl, B1, h⟩
    simp only [List.map_nil, stp, Option.some.injEq, Prod.mk.injEq] at h
    obtain ⟨e1, e2⟩ := h
    subst e1 e2
    simp [exSs, exS, evE, evEs, evL, evIt, evC, evO, asgT, asgTs, wipe, itemsOf, idx_tup, atI, ixN, okO, cmpD, asBool, lstAt, mOk, gc_self, okG, c_str, c_int, c_non, e_str, e_int, e_non, rngD, mkLst, finD]
    exact gc_app (by simp [D.und])
/-! ### filled -/
def fill (xs : List Sg) (g : Sg → Tm) (x : Sg) : Tm := if x ∈ xs then g x else .nm x
theorem call_filled (xs : List Sg) (g : Sg → Tm) : ∀ (t : Tm) (n : Nat) (S : St), t.dep < n → call TT W n 12 [t.D, .tup (xs.map fun x => .tup [.str x, (g x).D])] S = .ok (t.sub (fill xs g)).D S := by
  intro t
  induction t using Tm.ind with
  | hn x =>
    intro n S hn
    obtain ⟨n, rfl⟩ : ∃ m, n = m + 1 := ⟨n - 1, by simp [Tm.dep] at hn; omega⟩
    show runFn TT W (call TT W n) f__law_filled _ S = _
    refine run_to rfl ?_
    unfold f__law_filled
    simp [exSs, exS, evE, evEs, evL, evIt, evC, evO, asgT, asgTs, wipe, itemsOf, idx_tup, atI, ixN, okO, cmpD, asBool, lstAt, mOk, gc_self, okG, c_str, c_int, c_non, e_str, e_int, e_non, rngD, mkLst, i_nm0, i_nm1, sName]
    refine forD_to (F := fun x => D.tup [.str x, (g x).D]) (fun l σ S' => S' = S ∧ (∃ a b, σ = [some (Tm.nm x).D, some (.tup (xs.map fun x => .tup [.str x, (g x).D])), a, b, none]) ∧ ∃ d, xs = d ++ l ∧ x ∉ d) (fun _ _ _ _ => rfl) ?_ ?_ ⟨rfl, ⟨_, _, rfl⟩, [], rfl, by simp⟩
    · rintro y l σ S' ⟨rfl, ⟨a, b, rfl⟩, d, e, hd⟩
      by_cases h : y = x
      · subst h
        have : y ∈ xs := by rw [e]; simp
        simp [exSs, exS, evE, evEs, evL, evIt, evC, evO, asgT, asgTs, wipe, itemsOf, idx_tup, atI, ixN, okO, cmpD, asBool, lstAt, mOk, gc_self, okG, c_str, c_int, c_non, e_str, e_int, e_non, rngD, mkLst, i_nm1, finD, Tm.sub, fill, this]
      · have h' : ¬ x = y := fun z => h z.symm
        simp [exSs, exS, evE, evEs, evL, evIt, evC, evO, asgT, asgTs, wipe, itemsOf, idx_tup, atI, ixN, okO, cmpD, asBool, lstAt, mOk, gc_self, okG, c_str, c_int, c_non, e_str, e_int, e_non, rngD, mkLst, i_nm1, h]
        exact ⟨d ++ [y], by rw [e]; simp, by simp [hd, h']⟩
    · rintro σ S' ⟨rfl, ⟨a, b, rfl⟩, d, e, hd⟩
      simp only [List.append_nil] at e
      subst e
      simp [exSs, exS, evE, evEs, evL, evIt, evC, evO, asgT, asgTs, wipe, itemsOf, idx_tup, atI, ixN, okO, cmpD, asBool, lstAt, mOk, gc_self, okG, c_str, c_int, c_non, e_str, e_int, e_non, rngD, mkLst, finD, Tm.sub, fill, hd]
  | hm w ts ih =>
    intro n S hn
    obtain ⟨n, rfl⟩ : ∃ m, n = m + 1 := ⟨n - 1, by simp [Tm.dep] at hn; omega⟩
    show runFn TT W (call TT W n) f__law_filled _ S = _
    refine run_to rfl ?_
    unfold f__law_filled
    simp [exSs, exS, evE, evEs, evL, evIt, evC, evO, asgT, asgTs, wipe, itemsOf, idx_tup, atI, ixN, okO, cmpD, asBool, lstAt, mOk, gc_self, okG, c_str, c_int, c_non, e_str, e_int, e_non, rngD, mkLst, i_mk0, i_mk1, i_mk2, sMade, Tm.Ds_map]
    rw [compD_one (g := fun t => (t.sub (fill xs g)).D) fun t ht => ?_]
    · simp [exSs, exS, evE, evEs, evL, evIt, evC, evO, asgT, asgTs, wipe, itemsOf, idx_tup, atI, ixN, okO, cmpD, asBool, lstAt, mOk, gc_self, okG, c_str, c_int, c_non, e_str, e_int, e_non, rngD, mkLst, lbD, finD, Tm.sub, Tm.D, Tm.Ds_map, Tm.subs_map, sMade]
    · have := ih t ht n S (by have := Tm.dep_le ht; simp [Tm.dep] at hn; omega)
      simp [exSs, exS, evE, evEs, evL, evIt, evC, evO, asgT, asgTs, wipe, itemsOf, idx_tup, atI, ixN, okO, cmpD, asBool, lstAt, mOk, gc_self, okG, c_str, c_int, c_non, e_str, e_int, e_non, rngD, mkLst, this]
/-! ### the same -/
mutual
def pur : D → Bool
  | .str _ => true
  | .tup xs => purs xs
  | .non | .bl _ | .int _ | .rol _ | .loc _ => false
def purs : List D → Bool
  | [] => true
  | x :: xs => pur x && purs xs
end
theorem purs_mem {xs : List D} (h : purs xs = true) {x : D} (hx : x ∈ xs) : pur x = true := by
  induction xs with
  | nil => cases hx
  | cons a r ih =>
    simp only [purs, Bool.and_eq_true] at h
    rcases List.mem_cons.mp hx with e | e
    · subst e; exact h.1
    · exact ih h.2 e
theorem depths_mem {xs : List D} {x : D} (hx : x ∈ xs) : x.depth ≤ D.depths xs := by
  induction xs with
  | nil => cases hx
  | cons a r ih =>
    rcases List.mem_cons.mp hx with e | e
    · subst e; simp [D.depths]; omega
    · have := ih e; simp [D.depths]; omega
mutual
theorem Tm.pur : ∀ t : Tm, Hd.pur t.D = true
  | .nm x => by simp [Tm.D, Hd.pur, Hd.purs]
  | .mk w ts => by simp [Tm.D, Hd.pur, Hd.purs, Tm.purs ts]
theorem Tm.purs : ∀ ts : List Tm, Hd.purs (Tm.Ds ts) = true
  | [] => by simp [Tm.Ds, Hd.purs]
  | t :: ts => by simp [Tm.Ds, Hd.purs, Tm.pur t, Tm.purs ts]
end
theorem zip_all : ∀ (xs ys : List D), xs.length = ys.length → ((xs.zip ys).map fun p => decide (p.1 = p.2)).all id = decide (xs = ys)
  | [], [], _ => by simp
  | [], _ :: _, h => by simp at h
  | _ :: _, [], h => by simp at h
  | x :: xs, y :: ys, h => by
    have := zip_all xs ys (by simpa using h)
    simp only [List.zip_cons_cons, List.map_cons, List.all_cons, this, id_eq, List.cons.injEq, Bool.decide_and]
theorem call_same : ∀ (n : Nat) (d e : D) (S : St), pur d = true → pur e = true → d.depth < n → call TT W n 13 [d, e] S = .ok (.bl (decide (d = e))) S
  | 0, _, _, _, _, _, h => by omega
  | n + 1, d, e, S, hd, he, hn => by
    show runFn TT W (call TT W n) f__law_same _ S = _
    refine run_to rfl ?_
    unfold f__law_same
    cases e with
    | str y =>
      cases d with
      | str x =>
        simp [exSs, exS, evE, evEs, evL, evIt, evC, evO, asgT, asgTs, wipe, itemsOf, idx_tup, atI, ixN, okO, cmpD, asBool, lstAt, mOk, gc_self, okG, c_str, c_int, c_non, e_str, e_int, e_non, rngD, mkLst, tyAny, tyIs, finD]
        by_cases h : x = y <;> simp [h]
      | tup xs => simp [exSs, exS, evE, evEs, evL, evIt, evC, evO, asgT, asgTs, wipe, itemsOf, idx_tup, atI, ixN, okO, cmpD, asBool, lstAt, mOk, gc_self, okG, c_str, c_int, c_non, e_str, e_int, e_non, rngD, mkLst, tyAny, tyIs, finD]
      | _ => simp [pur] at hd
    | tup ys =>
      cases d with
      | str x => simp [exSs, exS, evE, evEs, evL, evIt, evC, evO, asgT, asgTs, wipe, itemsOf, idx_tup, atI, ixN, okO, cmpD, asBool, lstAt, mOk, gc_self, okG, c_str, c_int, c_non, e_str, e_int, e_non, rngD, mkLst, tyAny, tyIs, finD]
      | tup xs =>
        by_cases hl : xs.length = ys.length
        · have hl' : (xs.length : Int) = (ys.length : Int) := by rw [hl]
          simp [exSs, exS, evE, evEs, evL, evIt, evC, evO, asgT, asgTs, wipe, itemsOf, idx_tup, atI, ixN, okO, cmpD, asBool, lstAt, mOk, gc_self, okG, c_str, c_int, c_non, e_str, e_int, e_non, rngD, mkLst, tyAny, tyIs, bltD, hl']
          rw [compD_one (F := fun r : D × D => D.tup [r.1, r.2]) (g := fun r => .bl (decide (r.1 = r.2))) fun r hr => ?_]
          · have hz := zip_all xs ys hl
            have := bools_map (g := fun r : D × D => decide (r.1 = r.2)) (xs.zip ys)
            simp [exSs, exS, evE, evEs, evL, evIt, evC, evO, asgT, asgTs, wipe, itemsOf, idx_tup, atI, ixN, okO, cmpD, asBool, lstAt, mOk, gc_self, okG, c_str, c_int, c_non, e_str, e_int, e_non, rngD, mkLst, lbD, finD, this, hz]
          · have hm := List.of_mem_zip hr
            simp only [pur] at hd he
            have c := call_same n r.1 r.2 S (purs_mem hd hm.1) (purs_mem he hm.2) (by have := depths_mem hm.1; simp only [D.depth] at hn; omega)
            simp [exSs, exS, evE, evEs, evL, evIt, evC, evO, asgT, asgTs, wipe, itemsOf, idx_tup, atI, ixN, okO, cmpD, asBool, lstAt, mOk, gc_self, okG, c_str, c_int, c_non, e_str, e_int, e_non, rngD, mkLst, c]
        · have hl' : ¬ (xs.length : Int) = (ys.length : Int) := by rw [Int.natCast_inj]; exact hl
          have hne : ¬ xs = ys := fun z => hl (by rw [z])
          simp [exSs, exS, evE, evEs, evL, evIt, evC, evO, asgT, asgTs, wipe, itemsOf, idx_tup, atI, ixN, okO, cmpD, asBool, lstAt, mOk, gc_self, okG, c_str, c_int, c_non, e_str, e_int, e_non, rngD, mkLst, tyAny, tyIs, bltD, hl', finD, hne]
      | _ => simp [pur] at hd
    | _ => simp [pur] at he
end
end Hd
end
section
set_option linter.all false
set_option maxRecDepth 10000
namespace Hd
open ML
def figs : Sg := [48, 49, 50, 51, 52, 53, 54, 55, 56, 57]
def gname (x : Sg) : Bool := decide (1 ≤ x.length) && decide (x.length ≤ 3) && x.all (fun c => figs.any (· == c)) && (x.head? != some 48)
theorem gnum : ∀ i, i < 999 → gname (num (i + 1)) = true := by decide +kernel
theorem chars_map (s : Sg) : chars s = s.map fun c => D.str [c] := rfl
theorem comp_none {α : Type} (l : List α) : (l.flatMap fun _ => ([] : List D)) = [] := by simp
section
variable {W : Nat}
theorem call_new : ∀ (t : Tm) (n : Nat) (S : St), t.dep < n → (∀ x ∈ t.lvs, gname x = true) → call TT W n 20 [t.D] S = .ok (.bl true) S := by
  intro t
  induction t using Tm.ind with
  | hn x =>
    intro n S hn hg
    obtain ⟨n, rfl⟩ : ∃ m, n = m + 1 := ⟨n - 1, by simp [Tm.dep] at hn; omega⟩
    have hg := hg x (by simp [Tm.lvs])
    simp only [gname, Bool.and_eq_true, decide_eq_true_eq, List.all_eq_true, bne_iff_ne, ne_eq] at hg
    obtain ⟨⟨⟨h1, h2⟩, h3⟩, h4⟩ := hg
    show runFn TT W (call TT W n) f__law_is_new _ S = _
    refine run_to rfl ?_
    unfold f__law_is_new
    have ty : tyAny TT.sub S (Tm.nm x).D [.tup] = some true := by simp [Tm.D, tyAny, tyIs]
    have ty2 : ∀ s, tyAny TT.sub S (.str s) [.str] = some true := fun s => by simp [tyAny, tyIs]
    have ln : bltD .len [(Tm.nm x).D] S = .ok (.int 2) S := by simp [Tm.D, bltD]
    simp [exSs, exS, evE, evEs, evL, evIt, evC, evO, asgT, asgTs, wipe, itemsOf, idx_tup, atI, ixN, okO, cmpD, asBool, lstAt, mOk, gc_self, okG, c_str, c_int, c_non, e_str, e_int, e_non, rngD, mkLst, ty, ty2, ln, in_i2, i_nm0, i_nm1, sName]
    refine lft_to ?_
    simp [exSs, exS, evE, evEs, evL, evIt, evC, evO, asgT, asgTs, wipe, itemsOf, idx_tup, atI, ixN, okO, cmpD, asBool, lstAt, mOk, gc_self, okG, c_str, c_int, c_non, e_str, e_int, e_non, rngD, mkLst]
    rw [chars_map, compD_of (g := fun _ => []) fun c hc => ?_]
    · obtain ⟨c, hx0, hc⟩ : ∃ c, (∀ S, idxD (.str x) (.int 0) S = .ok (.str [c]) S) ∧ c ≠ 48 := by
        cases x with
        | nil => simp at h1
        | cons c r => exact ⟨c, fun S => by simp [idxD, atI, ixN, okO], by simpa using h4⟩
      have b1 : (1 : Int) ≤ ((x.length : Nat) : Int) := by omega
      have b2 : ((x.length : Nat) : Int) ≤ 3 := by omega
      have lnx : ∀ S, bltD .len [.str x] S = .ok (.int ((x.length : Nat) : Int)) S := fun _ => rfl
      simp only [comp_none]
      simp [exSs, exS, evE, evEs, evL, evIt, evC, evO, asgT, asgTs, wipe, itemsOf, idx_tup, atI, ixN, okO, cmpD, asBool, lstAt, mOk, gc_self, okG, c_str, c_int, c_non, e_str, e_int, e_non, rngD, mkLst, cmpLD, Gd.ok, lnx, b1, b2, hc, i_nm1, hx0, finD]
      have hc2 : (c == 48) = false := by simpa using hc
      rw [hc2]
      exact gc_app (by simp [D.und])
    · have := h3 c hc
      simp only [figs] at this
      simp [exSs, exS, evE, evEs, evL, evIt, evC, evO, asgT, asgTs, wipe, itemsOf, idx_tup, atI, ixN, okO, cmpD, asBool, lstAt, mOk, gc_self, okG, c_str, c_int, c_non, e_str, e_int, e_non, rngD, mkLst, inD, this]
  | hm w ts ih =>
    intro n S hn hg
    obtain ⟨n, rfl⟩ : ∃ m, n = m + 1 := ⟨n - 1, by simp [Tm.dep] at hn; omega⟩
    show runFn TT W (call TT W n) f__law_is_new _ S = _
    refine run_to rfl ?_
    unfold f__law_is_new
    have ty : tyAny TT.sub S (Tm.mk w ts).D [.tup] = some true := by simp [Tm.D, tyAny, tyIs]
    have ty2 : ∀ s, tyAny TT.sub S (.str s) [.str] = some true := fun s => by simp [tyAny, tyIs]
    have ty3 : ∀ s, tyAny TT.sub S (.tup s) [.tup] = some true := fun s => by simp [tyAny, tyIs]
    have ln : bltD .len [(Tm.mk w ts).D] S = .ok (.int 3) S := by simp [Tm.D, bltD]
    simp [exSs, exS, evE, evEs, evL, evIt, evC, evO, asgT, asgTs, wipe, itemsOf, idx_tup, atI, ixN, okO, cmpD, asBool, lstAt, mOk, gc_self, okG, c_str, c_int, c_non, e_str, e_int, e_non, rngD, mkLst, ty, ty2, ty3, ln, in_i2, i_mk0, i_mk1, i_mk2, sMade, Tm.Ds_map]
    rw [compD_one (g := fun t => .bl true) fun t ht => ?_]
    · have := bools_map (g := fun _ : Tm => true) ts
      simp [exSs, exS, evE, evEs, evL, evIt, evC, evO, asgT, asgTs, wipe, itemsOf, idx_tup, atI, ixN, okO, cmpD, asBool, lstAt, mOk, gc_self, okG, c_str, c_int, c_non, e_str, e_int, e_non, rngD, mkLst, lbD, finD, this]
    · have := ih t ht n S (by have := Tm.dep_le ht; simp [Tm.dep] at hn; omega) fun x hx => hg x (by simp only [Tm.lvs, Tm.lvss_map, List.mem_flatMap]; exact ⟨t, ht, hx⟩)
      simp [exSs, exS, evE, evEs, evL, evIt, evC, evO, asgT, asgTs, wipe, itemsOf, idx_tup, atI, ixN, okO, cmpD, asBool, lstAt, mOk, gc_self, okG, c_str, c_int, c_non, e_str, e_int, e_non, rngD, mkLst, this]
/-- a half that is right -/
theorem call_half (m : Nat) (g : Sg → Tm) (n M : Nat) (S : St) (hm : m ≤ 1000) (hM : ∀ i, i < m → (g (num (i + 1))).dep < M) (hn : M + 4 < n) (hg : ∀ i, i < m → ∀ y ∈ (g (num (i + 1))).lvs, gname y = true) :
    call TT W n 21 [.tup (((List.range m).map fun i => num (i + 1)).map fun x => .tup [.str x, (g x).D]), .int (m : Int)] S = .ok (.bl true) S := by
  obtain ⟨n, rfl⟩ : ∃ k, n = k + 1 := ⟨n - 1, by omega⟩
  show runFn TT W (call TT W n) f__law_is_half _ S = _
  refine run_to rfl ?_
  unfold f__law_is_half
  generalize hL : (((List.range m).map fun i => num (i + 1)).map fun x => D.tup [.str x, (g x).D]) = L
  have ty3 : ∀ s S, tyAny TT.sub S (.tup s) [.tup] = some true := fun s S => by simp [tyAny, tyIs]
  have ln : ∀ s S, bltD .len [.tup s] S = .ok (.int (s.length : Nat)) S := fun _ _ => rfl
  have hlen : L.length = m := by rw [← hL]; simp
  simp [exSs, exS, evE, evEs, evL, evIt, evC, evO, asgT, asgTs, wipe, itemsOf, idx_tup, atI, ixN, okO, cmpD, asBool, lstAt, mOk, gc_self, okG, c_str, c_int, c_non, e_str, e_int, e_non, rngD, mkLst, ty3, ln, hlen]
  have hz : (L.zipIdx.map fun q => D.tup [.int q.2, q.1]) = (List.range m).map fun i => D.tup [.int (i : Nat), .tup [.str (num (i + 1)), (g (num (i + 1))).D]] := by
    rw [← hL]
    apply List.ext_getElem?
    intro i
    simp only [List.getElem?_map, List.getElem?_zipIdx, List.getElem?_range]
    by_cases h : i < m
    · simp [List.getElem?_range, h]
    · simp [List.getElem?_range, h]
  rw [hz]
  refine forD_to (F := fun i => D.tup [.int (i : Nat), .tup [.str (num (i + 1)), (g (num (i + 1))).D]]) (fun l σ S' => S' = S ∧ (∃ a b, σ = [some (.tup L), some (.int (m : Int)), a, b]) ∧ ∀ i ∈ l, i < m) (fun _ _ _ _ => rfl) ?_ ?_ ⟨rfl, ⟨_, _, rfl⟩, fun i hi => by simpa using hi⟩
  · rintro i l σ S' ⟨rfl, ⟨a, b, rfl⟩, h⟩
    have hi := h i (by simp)
    have c1 := call_same (W := W) n (.str (num (i + 1))) (.str (num (i + 1))) S' rfl rfl (by simp [D.depth]; omega)
    have c2 := call_new (W := W) (g (num (i + 1))) n S' (by have := hM i hi; omega) (hg i hi)
    have hb : ((i : Int) + 1).natAbs < 1000000000000000000 := by omega
    have e1 : strInt ((i : Int) + 1) = num (i + 1) := rfl
    simp [exSs, exS, evE, evEs, evL, evIt, evC, evO, asgT, asgTs, wipe, itemsOf, idx_tup, atI, ixN, okO, cmpD, asBool, lstAt, mOk, gc_self, okG, c_str, c_int, c_non, e_str, e_int, e_non, rngD, mkLst, ty3, ln, binD, bltD, hb, e1, c1, c2]
    exact fun j hj => h j (List.mem_cons_of_mem _ hj)
  · rintro σ S' ⟨rfl, ⟨a, b, rfl⟩, h⟩
    simp [exSs, exS, evE, evEs, evL, evIt, evC, evO, asgT, asgTs, wipe, itemsOf, idx_tup, atI, ixN, okO, cmpD, asBool, lstAt, mOk, gc_self, okG, c_str, c_int, c_non, e_str, e_int, e_non, rngD, mkLst, finD]
end
end Hd
end
section
set_option linter.all false
set_option maxRecDepth 10000
namespace Hd
open ML
theorem ren_dep (q : List Sg) (t : Tm) : (t.sub (ren q)).dep = t.dep := by
  induction t using Tm.ind with
  | hn y => simp [Tm.sub, ren, Tm.dep]
  | hm w ts ih =>
    simp only [Tm.sub, Tm.dep, Tm.subs_map]
    congr 1
    clear w
    induction ts with
    | nil => rfl
    | cons a r ihr =>
      simp only [List.map_cons, Tm.deps, ih a (by simp), ihr fun t ht => ih t (List.mem_cons_of_mem _ ht)]
theorem lvs_sub {f : Sg → Tm} (t : Tm) : ∀ x, x ∈ (t.sub f).lvs → ∃ y ∈ t.lvs, x ∈ (f y).lvs := by
  induction t using Tm.ind with
  | hn y => intro x hx; exact ⟨y, by simp [Tm.lvs], by simpa [Tm.sub] using hx⟩
  | hm w ts ih =>
    intro x hx
    simp only [Tm.sub, Tm.lvs, Tm.lvss_map, Tm.subs_map, List.mem_flatMap, List.mem_map] at hx ⊢
    obtain ⟨_, ⟨u, hu, rfl⟩, hx⟩ := hx
    obtain ⟨y, hy, h⟩ := ih u hu x hx
    exact ⟨y, ⟨u, hu, hy⟩, h⟩
section
variable {W : Nat} {Sub : Tm → Prop} {Nm : List Sg} {U : List Tm} {fs gs : Fs}
theorem nms_mem {fs : Fs} {p : Sg × Tm} (hp : p ∈ fs) {x : Sg} (hx : x ∈ p.2.lvs) : x ∈ nmsOf fs := by
  unfold nmsOf
  rw [ded_mem]
  exact .inr (List.mem_flatMap.mpr ⟨p, hp, hx⟩)
theorem nms_sub (P : Pr Sub Nm U fs gs) : (∀ x ∈ nmsOf fs, Sub (.nm (sA ++ x))) ∧ ∀ x ∈ nmsOf gs, Sub (.nm (sB ++ x)) := by
  have nx : ∀ {hs : Fs} {s x : Sg}, (∀ p ∈ hs, Sub (p.2.side s)) → x ∈ nmsOf hs → Sub (.nm (s ++ x)) := fun h hx => by
    unfold nmsOf at hx
    rw [ded_mem] at hx
    rcases hx with hx | hx
    · cases hx
    · obtain ⟨p, hp, hx⟩ := List.mem_flatMap.mp hx
      exact sub_side P.wd.part _ (h p hp) hx
  exact ⟨fun x hx => nx P.sa hx, fun x hx => nx P.sb hx⟩
/-- what common tells is right -/
theorem call_right (P : Pr Sub Nm U fs gs) (hW : 1000 ≤ W) (w w' : Sg) (i i' : Int) (n : Nat) (S : St) (hn : 2 * U.length + 60 ≤ n) {m m' : Nat} (hm : m ≤ 1000) (hm' : m' ≤ 1000)
    (ef : nmsOf fs = (List.range m).map fun i => num (i + 1)) (eg : nmsOf gs = (List.range m').map fun i => num (i + 1)) : ∃ d, call TT W n 25 [anD fs w i, anD gs w' i'] S = .ok d S ∧
      ((∃ θ : Sg → Tm, ∀ p ∈ prs fs gs, p.1.sub θ = p.2.sub θ) → d ≠ .non) ∧ call TT W n 24 [d, anD fs w i, anD gs w' i', .tup [.int (m : Int), .int (m' : Int)]] S = .ok (.bl true) S := by
  obtain ⟨r, b', T, hc⟩ := call_common (W := W) P hW w w' i i' n S (by omega)
  have hc := hc _ rfl
  generalize hq : ded [] ((nmsOf fs).flatMap (fun x => (sol b' (sA ++ x)).lvs) ++ (nmsOf gs).flatMap (fun x => (sol b' (sB ++ x)).lvs)) = q at hc
  obtain ⟨nsa, nsb⟩ := nms_sub P
  have hqm : ∀ {x}, x ∈ q ↔ (∃ y ∈ nmsOf fs, x ∈ (sol b' (sA ++ y)).lvs) ∨ ∃ y ∈ nmsOf gs, x ∈ (sol b' (sB ++ y)).lvs := fun {x} => by
    rw [← hq, ded_mem, List.mem_append, List.mem_flatMap, List.mem_flatMap]
    simp
  have hqN : ∀ x ∈ q, x ∈ Nm := fun x hx => by
    rcases hqm.mp hx with ⟨y, hy, hx⟩ | ⟨y, hy, hx⟩
    · exact lvs_names P.wd T.bi _ (.nm (sA ++ y)) rfl (nsa y hy) x (by simpa [Tm.sub] using hx)
    · exact lvs_names P.wd T.bi _ (.nm (sB ++ y)) rfl (nsb y hy) x (by simpa [Tm.sub] using hx)
  have hql : q.length ≤ 999 := by
    have := pigeonS q Nm (by rw [← hq]; exact ded_nodup (by simp)) hqN
    have := P.wd.nlen
    omega
  refine ⟨_, hc, fun h => by rw [T.can.mpr h]; simp, ?_⟩
  obtain ⟨n, rfl⟩ : ∃ k, n = k + 1 := ⟨n - 1, by omega⟩
  obtain ⟨r2, h2, hcan⟩ := call_can (W := W) P hW w w' i i' n S (by omega)
  have hr : r2 = r := by
    have := h2.trans T.can.symm
    cases r <;> cases r2 <;> simp at this ⊢
  subst hr
  have ia1 : ∀ (fs : Fs) w i S, idxD (anD fs w i) (.int 0) S = .ok fs.D S := fun _ _ _ _ => rfl
  show runFn TT W (call TT W n) f__law_right _ S = _
  refine run_to rfl ?_
  unfold f__law_right
  cases r2 with
  | false => simp [exSs, exS, evE, evEs, evL, evIt, evC, evO, asgT, asgTs, wipe, itemsOf, idx_tup, atI, ixN, okO, cmpD, asBool, lstAt, mOk, gc_self, okG, c_str, c_int, c_non, e_str, e_int, e_non, rngD, mkLst, hcan, finD]
  | true =>
    have snd := T.ans.sound rfl _ T.bi.sol.bd
    have gn : ∀ (s : Sg) (y : Sg), (∀ x ∈ (sol b' (s ++ y)).lvs, x ∈ q) → ∀ z ∈ ((sol b' (s ++ y)).sub (ren q)).lvs, gname z = true := fun s y h z hz => by
      obtain ⟨x, hx, hz⟩ := lvs_sub _ z hz
      simp only [ren, Tm.lvs, List.mem_singleton] at hz
      subst hz
      refine gnum _ ?_
      have := List.idxOf_lt_length_iff.mpr (h x hx)
      omega
    have dp : ∀ (s : Sg) (y : Sg), Sub (.nm (s ++ y)) → ((sol b' (s ++ y)).sub (ren q)).dep < U.length + 2 := fun s y h => by
      rw [ren_dep]
      have := dep_bound T.bi P.wd.part P.wd.made h
      simp only [Tm.sub] at this
      omega
    have inf : ∀ i, i < m → num (i + 1) ∈ nmsOf fs := fun i hi => by rw [ef]; exact List.mem_map.mpr ⟨i, by simpa using hi, rfl⟩
    have ing : ∀ i, i < m' → num (i + 1) ∈ nmsOf gs := fun i hi => by rw [eg]; exact List.mem_map.mpr ⟨i, by simpa using hi, rfl⟩
    have c1 := call_half (W := W) m (fun x => (sol b' (sA ++ x)).sub (ren q)) n (U.length + 2) S hm (fun i hi => dp _ _ (nsa _ (inf i hi))) (by omega) fun i hi => gn sA _ fun x hx => hqm.mpr (.inl ⟨_, inf i hi, hx⟩)
    have c2 := call_half (W := W) m' (fun x => (sol b' (sB ++ x)).sub (ren q)) n (U.length + 2) S hm' (fun i hi => dp _ _ (nsb _ (ing i hi))) (by omega) fun i hi => gn sB _ fun x hx => hqm.mpr (.inr ⟨_, ing i hi, hx⟩)
    rw [← ef] at c1
    rw [← eg] at c2
    have ty3 : ∀ s, tyAny TT.sub S (.tup s) [.tup] = some true := fun s => by simp [tyAny, tyIs]
    have ln : ∀ s S, bltD .len [.tup s] S = .ok (.int (s.length : Nat)) S := fun _ _ => rfl
    have e1 : D.tup ((nmsOf fs).map fun x => .tup [.str x, ((sol b' (sA ++ x)).sub (ren q)).D]) = halfD (sol b') q sA fs := rfl
    have e2 : D.tup ((nmsOf gs).map fun x => .tup [.str x, ((sol b' (sB ++ x)).sub (ren q)).D]) = halfD (sol b') q sB gs := rfl
    rw [e1] at c1
    rw [e2] at c2
    simp [exSs, exS, evE, evEs, evL, evIt, evC, evO, asgT, asgTs, wipe, itemsOf, idx_tup, atI, ixN, okO, cmpD, asBool, lstAt, mOk, gc_self, okG, c_str, c_int, c_non, e_str, e_int, e_non, rngD, mkLst, hcan, ty3, ln, c1, c2, ia1, Fs.D]
    rw [zip_maps]
    refine forD_to (F := fun r : (Sg × Tm) × (Sg × Tm) => D.tup [flD r.1, flD r.2]) (fun l σ S' => S' = S ∧ (∃ x y, σ = [some (.tup [halfD (sol b') q sA fs, halfD (sol b') q sB gs]), some (anD fs w i), some (anD gs w' i'), some (.tup [.int (m : Int), .int (m' : Int)]), x, y]) ∧ (∀ z ∈ l, z ∈ fs.zip gs)) (fun _ _ _ _ => rfl) ?_ ?_ ⟨rfl, ⟨_, _, rfl⟩, fun _ h => h⟩
    · rintro z l σ S' ⟨rfl, ⟨x, y, rfl⟩, hl⟩
      have hzz := hl z (by simp)
      have hz := List.of_mem_zip hzz
      have f1 := call_filled (W := W) (nmsOf fs) (fun x => (sol b' (sA ++ x)).sub (ren q)) z.1.2 n S' (by have := (P.da _ hz.1).1; omega)
      have f2 := call_filled (W := W) (nmsOf gs) (fun x => (sol b' (sB ++ x)).sub (ren q)) z.2.2 n S' (by have := (P.db _ hz.2).1; omega)
      have g1 : z.1.2.sub (fill (nmsOf fs) fun x => (sol b' (sA ++ x)).sub (ren q)) = ((z.1.2.side sA).sub (sol b')).sub (ren q) := by
        unfold Tm.side
        rw [sub_sub, sub_sub]
        refine sub_ext _ fun x hx => ?_
        have := nms_mem hz.1 ((occ_lvs _).mp hx)
        simp [fill, this, Tm.sub]
      have g2 : z.2.2.sub (fill (nmsOf gs) fun x => (sol b' (sB ++ x)).sub (ren q)) = ((z.2.2.side sB).sub (sol b')).sub (ren q) := by
        unfold Tm.side
        rw [sub_sub, sub_sub]
        refine sub_ext _ fun x hx => ?_
        have := nms_mem hz.2 ((occ_lvs _).mp hx)
        simp [fill, this, Tm.sub]
      have hs := snd _ (List.mem_map.mpr ⟨z, hzz, rfl⟩)
      simp only at hs
      rw [g1] at f1
      rw [g2, ← hs] at f2
      rw [e1] at f1
      rw [e2] at f2
      have hdd : (((z.1.2.side sA).sub (sol b')).sub (ren q)).D.depth < n := by
        have := Tm.ddep (((z.1.2.side sA).sub (sol b')).sub (ren q))
        rw [ren_dep] at this
        have := dep_bound T.bi P.wd.part P.wd.made (P.sa _ hz.1)
        omega
      have c3 := call_same (W := W) n _ _ S' (Tm.pur (((z.1.2.side sA).sub (sol b')).sub (ren q))) (Tm.pur (((z.1.2.side sA).sub (sol b')).sub (ren q))) hdd
      simp [exSs, exS, evE, evEs, evL, evIt, evC, evO, asgT, asgTs, wipe, itemsOf, idx_tup, atI, ixN, okO, cmpD, asBool, lstAt, mOk, gc_self, okG, c_str, c_int, c_non, e_str, e_int, e_non, rngD, mkLst, flD, f1, f2, c3]
      exact fun a b c d h => hl _ (List.mem_cons_of_mem _ h)
    · rintro σ S' ⟨rfl, ⟨x, y, rfl⟩, hl⟩
      simp [exSs, exS, evE, evEs, evL, evIt, evC, evO, asgT, asgTs, wipe, itemsOf, idx_tup, atI, ixN, okO, cmpD, asBool, lstAt, mOk, gc_self, okG, c_str, c_int, c_non, e_str, e_int, e_non, rngD, mkLst, finD]
/-- things are alike with themselves -/
theorem can_self (fs : Fs) : ∃ θ : Sg → Tm, ∀ p ∈ prs fs fs, p.1.sub θ = p.2.sub θ := by
  refine ⟨fun x => .nm x.tail, fun p hp => ?_⟩
  obtain ⟨r, hr, rfl⟩ := List.mem_map.mp hp
  have e : r.1 = r.2 := by
    have : ∀ (l : Fs), r ∈ l.zip l → r.1 = r.2 := fun l => by
      induction l with
      | nil => simp
      | cons a l ih =>
        simp only [List.zip_cons_cons, List.mem_cons]
        rintro (rfl | h)
        · rfl
        · exact ih h
    exact this fs hr
  rw [e]
  unfold Tm.side
  simp only [sub_sub]
  rfl
end
end Hd
end
section
set_option linter.all false
set_option maxRecDepth 10000
namespace Hd
open ML
/-- what stood stands, but at some places -/
def Frm (A : Nat → Prop) (S S' : St) : Prop := S.length ≤ S'.length ∧ ∀ i, i < S.length → ¬ A i → S'[i]? = S[i]?
theorem Frm.refl {A : Nat → Prop} {S : St} : Frm A S S := ⟨Nat.le_refl _, fun _ _ _ => rfl⟩
theorem Frm.trans {A : Nat → Prop} {S S' S'' : St} (h : Frm A S S') (g : Frm A S' S'') : Frm A S S'' :=
  ⟨Nat.le_trans h.1 g.1, fun i hi ha => (g.2 i (Nat.lt_of_lt_of_le hi h.1) ha).trans (h.2 i hi ha)⟩
theorem Frm.mono {A B : Nat → Prop} {S S' : St} (h : Frm A S S') (f : ∀ i, i < S.length → A i → B i) : Frm B S S' := ⟨h.1, fun i hi hb => h.2 i hi fun ha => hb (f i hi ha)⟩
theorem Frm.set {A : Nat → Prop} {S : St} {l : Nat} {o : O} (h : A l) : Frm A S (S.set l o) := ⟨by simp, fun i _ ha => by
  have : l ≠ i := fun e => ha (e ▸ h)
  simp [List.getElem?_set, this]⟩
theorem Frm.app {A : Nat → Prop} {S X : St} : Frm A S (S ++ X) := ⟨by simp, fun i hi _ => by rw [List.getElem?_append_left hi]⟩
theorem Frm.get {A : Nat → Prop} {S S' : St} (h : Frm A S S') {i : Nat} {o : O} (e : S[i]? = some o) (ha : ¬ A i) : S'[i]? = some o := by
  rw [h.2 i (List.getElem?_eq_some_iff.mp e).1 ha]; exact e
theorem atI_ok {α : Type} {xs : List α} {i : Int} (h0 : 0 ≤ i) (h1 : i < xs.length) : ∃ x, x ∈ xs ∧ xs[i.toNat]? = some x ∧ atI xs i = some x := by
  have hl : i.toNat < xs.length := by omega
  exact ⟨xs[i.toNat], List.getElem_mem _, by simp [hl], by simp [atI, ixN, h0, h1, hl]⟩
theorem atI_map {α β : Type} {f : α → β} {xs : List α} {i : Int} (h0 : 0 ≤ i) (h1 : i < xs.length) : ∃ x, x ∈ xs ∧ atI (xs.map f) i = some (f x) := by
  obtain ⟨x, hx, e, _⟩ := atI_ok h0 h1
  exact ⟨x, hx, by unfold atI ixN; rw [if_pos h0, if_pos (by simpa using h1)]; simp [e]⟩
theorem setIx_lst {xs : List D} {l : Nat} {i : Int} {v : D} {S : St} (h : S[l]? = some (.lst xs)) (h0 : 0 ≤ i) (h1 : i < xs.length) : setIx (.loc l) (.int i) v S = .ok () (S.set l (.lst (xs.set i.toNat v))) := by
  simp [setIx, h, ixN, h0, h1]
/-- the deck's places -/
structure Dk where
  l : Nat
  c : Nat
  r : Nat
def Dk.A (d : Dk) (i : Nat) : Prop := i = d.l ∨ i = d.c ∨ i = d.r
structure DkAt (d : Dk) (B : Int) (S : St) : Prop where
  ne : d.l ≠ d.c ∧ d.l ≠ d.r ∧ d.c ≠ d.r
  at_ : ∃ (cs rs : List Int) (m : Int), S[d.l]? = some (.lst [.loc d.c, .int m, .loc d.r]) ∧ S[d.c]? = some (.lst (cs.map .int)) ∧ S[d.r]? = some (.lst (rs.map .int)) ∧ 0 < cs.length ∧ cs.length ≤ 100 ∧ rs.length = cs.length ∧ 0 ≤ m ∧ m ≤ B
theorem DkAt.frm {d : Dk} {B : Int} {S S' : St} {A : Nat → Prop} (h : DkAt d B S) (f : Frm A S S') (hl : ¬ A d.l) (hc : ¬ A d.c) (hr : ¬ A d.r) : DkAt d B S' := by
  obtain ⟨ne, cs, rs, m, h1, h2, h3, h4⟩ := h
  exact ⟨ne, cs, rs, m, f.get h1 hl, f.get h2 hc, f.get h3 hr, h4⟩
theorem DkAt.app {d : Dk} {B : Int} {S X : St} (h : DkAt d B S) : DkAt d B (S ++ X) := h.frm (A := fun _ => False) Frm.app id id id
theorem DkAt.le {d : Dk} {B B' : Int} {S : St} (h : DkAt d B S) (e : B ≤ B') : DkAt d B' S := by
  obtain ⟨ne, cs, rs, m, h1, h2, h3, h4, h5, h6, h7, h8⟩ := h
  exact ⟨ne, cs, rs, m, h1, h2, h3, h4, h5, h6, h7, by omega⟩
theorem DkAt.ll {d : Dk} {B : Int} {S : St} (h : DkAt d B S) : d.l < S.length ∧ d.c < S.length ∧ d.r < S.length := by
  obtain ⟨ne, cs, rs, m, h1, h2, h3, h4⟩ := h
  exact ⟨(List.getElem?_eq_some_iff.mp h1).1, (List.getElem?_eq_some_iff.mp h2).1, (List.getElem?_eq_some_iff.mp h3).1⟩
section
variable {W : Nat}
theorem b_mod {i j : Int} {S : St} (h : 0 < j) (h2 : j < 18446744073709551616) : binD .mod (.int i) (.int j) S = .ok (.int (i % j)) S := by simp [binD, big, h, h2]
theorem b_div {i j : Int} {S : St} (h : 0 < j) (h2 : j < 18446744073709551616) : binD .fdiv (.int i) (.int j) S = .ok (.int (i / j)) S := by simp [binD, big, h, h2]
theorem b_mul {i j : Int} {S : St} (h : small i = true ∨ small j = true) : binD .mul (.int i) (.int j) S = .ok (.int (i * j)) S := by rcases h with h | h <;> simp [binD, h]
theorem b_pow {i j : Int} {S : St} (h : small i = true) (h1 : 0 ≤ j) (h2 : j ≤ 1000) : binD .pow (.int i) (.int j) S = .ok (.int (i ^ j.toNat)) S := by simp [binD, h, h1, h2]
theorem b_add {i j : Int} {S : St} : binD .add (.int i) (.int j) S = .ok (.int (i + j)) S := rfl
theorem b_sub {i j : Int} {S : St} : binD .sub (.int i) (.int j) S = .ok (.int (i - j)) S := rfl
theorem smallI {i : Int} (h : -18446744073709551616 < i) (h2 : i < 18446744073709551616) : small i = true := by simp [small, big, h, h2]
theorem sm_c1 : small 69621 = true := by decide
theorem sm_c2 : small 7919 = true := by decide
theorem sm_c3 : small 7907 = true := by decide
theorem call_next {d : Dk} {B : Int} {S : St} (h : DkAt d B S) (hB : B ≤ 1000000) (n : Nat) : (call TT W (n + 1) 11 [.loc d.l] S).to fun x S' => ∃ v : Int, x = .int v ∧ 0 ≤ v ∧ v < 1000 ∧ DkAt d (B + 1) S' ∧ Frm d.A S S' := by
  have h0 := h
  obtain ⟨⟨n1, n2, n3⟩, cs, rs, m, h1, h2, h3, h4, h5, h6, h7, h8⟩ := h
  have ll := (List.getElem?_eq_some_iff.mp h1).1
  have lc := (List.getElem?_eq_some_iff.mp h2).1
  have lr := (List.getElem?_eq_some_iff.mp h3).1
  have hlen : 0 < (cs.length : Int) := by omega
  have hbig : (cs.length : Int) < 18446744073709551616 := by omega
  have ha0 : 0 ≤ m % (cs.length : Int) := Int.emod_nonneg _ (by omega)
  have ha1 : m % (cs.length : Int) < cs.length := Int.emod_lt_of_pos _ hlen
  have m1 := fun S => b_mod (i := m) (S := S) hlen hbig
  generalize hat : m % (cs.length : Int) = a at ha0 ha1 m1
  obtain ⟨rv, hr, e1⟩ := atI_map (f := D.int) (xs := rs) ha0 (by rw [h6]; exact ha1)
  obtain ⟨cv, hcv, e2⟩ := atI_map (f := D.int) (xs := cs) ha0 ha1
  have lnc : ∀ S' : St, S'[d.c]? = some (.lst (cs.map .int)) → bltD .len [.loc d.c] S' = .ok (.int (cs.length : Nat)) S' := fun S' h => by simp [bltD, h]
  generalize hS1 : S.set d.l (O.lst [.loc d.c, .int (m + 1), .loc d.r]) = S1
  have g1 : S1[d.l]? = some (.lst [.loc d.c, .int (m + 1), .loc d.r]) := by simp [← hS1, ll]
  have g2 : S1[d.c]? = some (.lst (cs.map .int)) := by simp [← hS1, List.getElem?_set, n1, h2]
  have g3 : S1[d.r]? = some (.lst (rs.map .int)) := by simp [← hS1, List.getElem?_set, n2, h3]
  have s1 := setIx_lst (v := .int (m + 1)) (i := 1) h1 (by decide) (by simp)
  have f1 : Frm d.A S S1 := by rw [← hS1]; exact Frm.set (.inl rfl)
  have k1 : DkAt d (B + 1) S1 := ⟨⟨n1, n2, n3⟩, cs, rs, m + 1, g1, g2, g3, h4, h5, h6, by omega, by omega⟩
  have i1 := fun (S' : St) (h : S'[d.r]? = some (.lst (rs.map .int))) => idx_loc (i := a) h
  have i2 := fun (S' : St) (h : S'[d.c]? = some (.lst (cs.map .int))) => idx_loc (i := a) h
  simp only [e1, e2, okO] at i1 i2
  show (runFn TT W (call TT W n) f__law_next _ S).to _
  refine run_too rfl ?_
  unfold f__law_next
  have hset : S.set d.l (O.lst ([D.loc d.c, .int m, .loc d.r].set (1 : Int).toNat (.int (m + 1)))) = S1 := by rw [← hS1]; rfl
  rw [hset] at s1
  simp [exSs, exS, evE, evEs, evL, evIt, evC, evO, asgT, asgTs, wipe, itemsOf, idx_tup, atI, ixN, okO, cmpD, asBool, lstAt, mOk, gc_self, okG, c_str, c_int, c_non, e_str, e_int, e_non, rngD, mkLst, h1, lnc S h2, m1, s1, b_add, i1 S1 g3]
  have sma : small a = true := smallI (by omega) (by omega)
  by_cases hp : 0 < rv
  · have w1 := setIx_lst (v := .int (rv / 1000)) (i := a) g3 ha0 (by simpa [h6] using ha1)
    have hf : 0 ≤ rv % 1000 ∧ rv % 1000 < 1000 := ⟨Int.emod_nonneg _ (by decide), Int.emod_lt_of_pos _ (by decide)⟩
    have w2 : (rs.map D.int).set a.toNat (.int (rv / 1000)) = (rs.set a.toNat (rv / 1000)).map .int := by rw [List.map_set]
    rw [w2] at w1
    simp [exSs, exS, evE, evEs, evL, evIt, evC, evO, asgT, asgTs, wipe, itemsOf, idx_tup, atI, ixN, okO, cmpD, asBool, lstAt, mOk, gc_self, okG, c_str, c_int, c_non, e_str, e_int, e_non, rngD, mkLst, hp, b_mod, b_div, i1 S1 g3, w1, finD]
    refine gc_to ⟨_, rfl, hf.1, hf.2, ⟨⟨n1, n2, n3⟩, cs, rs.set a.toNat (rv / 1000), m + 1, ?_, ?_, ?_, h4, h5, ?_, by omega, by omega⟩, f1.trans (Frm.set (.inr (.inr rfl)))⟩ fun _ => ⟨_, rfl, hf.1, hf.2, h0.le (by omega), Frm.refl⟩
    · exact (Frm.set (A := fun i => i = d.r) rfl).get g1 n2
    · exact (Frm.set (A := fun i => i = d.r) rfl).get g2 n3
    · rw [w2]
      simp only [List.getElem?_set, (List.getElem?_eq_some_iff.mp g3).1, if_true]
    · simp [h6]
  · have l7 : 7 ≤ lim := by decide
    generalize hpr : ([D.int 2147483629, D.int 2147483587, D.int 2147483579, D.int 2147483563, D.int 2147483549, D.int 2147483543, D.int 2147483497] : List D) = pr
    have hap : Frm (fun _ => False) S1 (S1 ++ [O.lst pr]) := Frm.app
    have g2' := hap.get g2 id
    have hx0 : 0 ≤ (a * a + m + 1) % (cs.length : Int) := Int.emod_nonneg _ (by omega)
    have hx1 : (a * a + m + 1) % (cs.length : Int) < cs.length := Int.emod_lt_of_pos _ hlen
    obtain ⟨ov, hov, e3⟩ := atI_map (f := D.int) (xs := cs) hx0 hx1
    have i3 := idx_loc (i := (a * a + m + 1) % (cs.length : Int)) g2'
    simp only [e3, okO] at i3
    have o0 : 0 ≤ ov % 1000003 := Int.emod_nonneg _ (by decide)
    have o1 : ov % 1000003 < 1000003 := Int.emod_lt_of_pos _ (by decide)
    generalize hoo : ov % 1000003 = oo at o0 o1
    have c0 : 0 ≤ cv % 2147483647 := Int.emod_nonneg _ (by decide)
    have c1 : cv % 2147483647 < 2147483647 := Int.emod_lt_of_pos _ (by decide)
    generalize hcc : cv % 2147483647 = cc at c0 c1
    have p0 : 0 ≤ m % 7 := Int.emod_nonneg _ (by decide)
    have p1 : m % 7 < pr.length := by rw [← hpr]; exact Int.emod_lt_of_pos _ (by decide)
    obtain ⟨pv, hpv, _, e4⟩ := atI_ok p0 p1
    obtain ⟨pz, rfl, z1, z2⟩ : ∃ z : Int, pv = .int z ∧ 0 < z ∧ z < 2147483648 := by
      rw [← hpr] at hpv
      simp only [List.mem_cons, List.not_mem_nil, or_false] at hpv
      rcases hpv with h | h | h | h | h | h | h <;> exact ⟨_, h, by decide, by decide⟩
    have gp : (S1 ++ [O.lst pr])[S1.length]? = some (.lst pr) := by simp
    have i4 := idx_loc (i := m % 7) gp
    simp only [e4, okO] at i4
    have sm1 : small (cc + 69621 * m + 7919 * oo + 91193) = true := smallI (by omega) (by omega)
    generalize hm1 : cc + 69621 * m + 7919 * oo + 91193 = mx at sm1
    have y0 : 0 ≤ mx ^ 3 % pz := Int.emod_nonneg _ (by omega)
    have y1 : mx ^ 3 % pz < pz := Int.emod_lt_of_pos _ z1
    generalize hmy : mx ^ 3 % pz = my at y0 y1
    have sm2 : small (my + 7907 * m) = true := smallI (by omega) (by omega)
    generalize hv : (my + 7907 * m) ^ 2 % 2147483477 / 1009 % 1000 = v
    have v0 : 0 ≤ v := by rw [← hv]; exact Int.emod_nonneg _ (by decide)
    have v1 : v < 1000 := by rw [← hv]; exact Int.emod_lt_of_pos _ (by decide)
    have bm3 : ∀ S, binD .pow (.int mx) (.int 3) S = .ok (.int (mx ^ 3)) S := fun S => b_pow sm1 (by decide) (by decide)
    have bm2 : ∀ S, binD .pow (.int (my + 7907 * m)) (.int 2) S = .ok (.int ((my + 7907 * m) ^ 2)) S := fun S => b_pow sm2 (by decide) (by decide)
    have bmp : ∀ S, binD .mod (.int (mx ^ 3)) (.int pz) S = .ok (.int my) S := fun S => by rw [b_mod z1 (by omega), hmy]
    have bmm : ∀ S, binD .mod (.int (a * a + m + 1)) (.int (cs.length : Int)) S = .ok (.int ((a * a + m + 1) % (cs.length : Int))) S := fun S => b_mod hlen hbig
    have bma : ∀ S, binD .mul (.int a) (.int a) S = .ok (.int (a * a)) S := fun S => b_mul (.inl sma)
    have bo : ∀ S, binD .mod (.int ov) (.int 1000003) S = .ok (.int oo) S := fun S => by rw [b_mod (by decide) (by decide), hoo]
    have bc : ∀ S, binD .mod (.int cv) (.int 2147483647) S = .ok (.int cc) S := fun S => by rw [b_mod (by decide) (by decide), hcc]
    have bl1 : ∀ S, binD .mul (.int 69621) (.int m) S = .ok (.int (69621 * m)) S := fun S => b_mul (.inl sm_c1)
    have bl2 : ∀ S, binD .mul (.int 7919) (.int oo) S = .ok (.int (7919 * oo)) S := fun S => b_mul (.inl sm_c2)
    have bl3 : ∀ S, binD .mul (.int 7907) (.int m) S = .ok (.int (7907 * m)) S := fun S => b_mul (.inl sm_c3)
    simp [exSs, exS, evE, evEs, evL, evIt, evC, evO, asgT, asgTs, wipe, itemsOf, idx_tup, atI, ixN, okO, cmpD, asBool, lstAt, mOk, gc_self, okG, c_str, c_int, c_non, e_str, e_int, e_non, rngD, mkLst, hp, l7, hpr, bma, b_add, lnc _ g2', bmm, i3, bo, i2 _ g2', bc, bl1, bl2, hm1, bm3, b_mod, bmp, i4, bl3, bm2, b_div, hv, finD]
    refine gc_to ⟨_, rfl, v0, v1, k1.app, f1.trans Frm.app⟩ fun _ => ⟨_, rfl, v0, v1, h0.le (by omega), Frm.refl⟩
end
end Hd
end
section
set_option linter.all false
set_option maxRecDepth 10000
namespace Hd
open ML
def letters : Sg := [97, 98, 99, 100, 101, 102, 103, 104, 105, 106, 107, 108, 109, 110, 111, 112, 113, 114, 115, 116, 117, 118, 119, 120, 121, 122]
theorem letters_at : ∀ k, k < 26 → letters[k]? = some (97 + k) := by decide
theorem idx_letter {k : Int} {S : St} (h0 : 0 ≤ k) (h1 : k < 26) : idxD (.str letters) (.int k) S = .ok (.str [97 + k.toNat]) S := by
  have hl : (letters.length : Int) = 26 := by decide
  have := letters_at k.toNat (by omega)
  simp only [idxD]
  unfold atI ixN
  rw [if_pos h0, if_pos (by rw [hl]; exact h1)]
  simp only [Option.bind_some, this]
  rfl
def wordS (s : Sg) (b n : Int) : Sg := s ++ [97 + ((b + 5 * n) % 26).toNat] ++ (List.replicate ((n * b) % 3).toNat [97 + (b / 26 % 26).toNat]).flatten
theorem wordS_inj {s : Sg} {b n m : Int} (hn0 : 0 ≤ n) (hn : n < 26) (hm0 : 0 ≤ m) (hm : m < 26) (h : wordS s b n = wordS s b m) : n = m := by
  unfold wordS at h
  rw [List.append_assoc, List.append_assoc] at h
  have h := List.append_cancel_left h
  simp only [List.cons_append, List.nil_append, List.cons.injEq] at h
  have h1 := h.1
  omega
theorem wordS_len {s : Sg} {b n : Int} : (wordS s b n).length ≤ s.length + 3 := by
  unfold wordS
  have : ((n * b) % 3).toNat ≤ 2 := by omega
  simp
  omega
section
variable {W : Nat}
theorem call_word (s : Sg) (b m : Int) (n : Nat) (S : St) (hs : s.length ≤ 10) (hb0 : 0 ≤ b) (hb : b < 1000) (hm0 : 0 ≤ m) (hm : m < 26) : call TT W (n + 1) 10 [.str s, .int b, .int m] S = .ok (.str (wordS s b m)) S := by
  show runFn TT W (call TT W n) f__law_word _ S = _
  refine run_to rfl ?_
  unfold f__law_word
  rw [show ([97, 98, 99, 100, 101, 102, 103, 104, 105, 106, 107, 108, 109, 110, 111, 112, 113, 114, 115, 116, 117, 118, 119, 120, 121, 122] : Sg) = letters from rfl]
  have i1 := fun S => idx_letter (k := b / 26 % 26) (S := S) (by omega) (by omega)
  have i2 := fun S => idx_letter (k := (b + 5 * m) % 26) (S := S) (by omega) (by omega)
  have m1 : ∀ S, binD .mul (.int m) (.int b) S = .ok (.int (m * b)) S := fun S => b_mul (.inl (smallI (by omega) (by omega)))
  have m2 : ∀ S, binD .mul (.int 5) (.int m) S = .ok (.int (5 * m)) S := fun S => b_mul (.inl (by decide))
  have hr : 0 ≤ m * b % 3 ∧ m * b % 3 < 3 := ⟨Int.emod_nonneg _ (by decide), Int.emod_lt_of_pos _ (by decide)⟩
  generalize hx : m * b % 3 = r at hr
  have m3 : ∀ c S, binD .mul (.str [c]) (.int r) S = .ok (.str (List.replicate r.toNat [c]).flatten) S := fun c S => by
    have h1 : -1000 ≤ r ∧ r ≤ 1000 := by omega
    have h2 : (List.replicate r.toNat [c]).flatten.length ≤ lim := by simp; unfold lim; omega
    simp only [binD, mkStr, h1, and_self, if_true, h2]
  have c1 : s.length + 1 ≤ lim := by unfold lim; omega
  have c2 : s.length + 1 + r.toNat ≤ lim := by unfold lim; omega
  simp [exSs, exS, evE, evEs, evL, evIt, evC, evO, asgT, asgTs, wipe, itemsOf, idx_tup, atI, ixN, okO, cmpD, asBool, lstAt, mOk, gc_self, okG, c_str, c_int, c_non, e_str, e_int, e_non, rngD, mkLst, b_mod, b_div, i1, m1, hx, m3, m2, b_add, i2, finD]
  simp [binD, mkStr, c1, c2, wordS, hx, finD, gc_self]
/-! ### kinds -/
abbrev Mk := Sg × List Sg
abbrev Kd := Sg × List Mk
def mkD (m : Mk) : D := .tup [.str m.1, .tup (m.2.map .str)]
def kdD (k : Kd) : D := .tup [.str k.1, .tup (k.2.map mkD)]
def KD (ks : List Kd) : D := .tup (ks.map kdD)
def iw (b : Int) (i : Nat) : Sg := wordS [109] b (i : Int)
structure MOk (ms : List Mk) : Prop where
  len : ms.length ≤ 3
  fst : ∀ m, ms[0]? = some m → m.2 = []
  par : ∀ m ∈ ms, m.2.length ≤ 3
structure KOk (ks : List Kd) : Prop where
  len : ks.length ≤ 3
  pos : 0 < ks.length
  mks : ∀ k ∈ ks, MOk k.2 ∧ 0 < k.2.length
  words : ∃ (b : Int) (m : Nat), m ≤ 9 ∧ (ks.flatMap (·.2)).map (·.1) = (List.range m).map (iw b)
theorem ok_app {l : Nat} {xs : List D} {S : St} (h : S[l]? = some (.lst xs)) : mOk .append (.loc l) S = true := by simp [mOk, lstAt, h]
theorem ok_ext {l : Nat} {xs : List D} {S : St} (h : S[l]? = some (.lst xs)) : mOk .extend (.loc l) S = true := by simp [mOk, lstAt, h]
theorem at0 {α : Type} {a : α} {l : List α} : atI (a :: l) 0 = some a := by simp [atI, ixN]
theorem at1 {α : Type} {a b : α} {l : List α} : atI (a :: b :: l) 1 = some b := by
  unfold atI ixN
  rw [if_pos (by decide), if_pos (by simp; omega)]
  rfl
theorem at2 {α : Type} {a b c : α} {l : List α} : atI (a :: b :: c :: l) 2 = some c := by
  unfold atI ixN
  rw [if_pos (by decide), if_pos (by simp; omega)]
  rfl
theorem Frm.set_new {A : Nat → Prop} {S S' : St} {l : Nat} {o : O} (h : Frm A S S') (hl : S.length ≤ l) : Frm A S (S'.set l o) := ⟨by simpa using h.1, fun i hi ha => by
  have : l ≠ i := by omega
  simp only [List.getElem?_set, this, if_false]
  exact h.2 i hi ha⟩
theorem DkAt.set {d : Dk} {B : Int} {S : St} {l : Nat} {o : O} (h : DkAt d B S) (n : ¬ d.A l) : DkAt d B (S.set l o) :=
  h.frm (A := fun i => i = l) (Frm.set rfl) (fun e => n (.inl e.symm)) (fun e => n (.inr (.inl e.symm))) (fun e => n (.inr (.inr e.symm)))
theorem get_set_ne {S : St} {l i : Nat} {o : O} (h : l ≠ i) : (S.set l o)[i]? = S[i]? := by simp [List.getElem?_set, h]
theorem get_set {S : St} {l : Nat} {o o' : O} (h : S[l]? = some o) : (S.set l o')[l]? = some o' := by simp [(List.getElem?_eq_some_iff.mp h).1]
theorem get_app {S X : St} {l : Nat} {o : O} (h : S[l]? = some o) : (S ++ X)[l]? = some o := (Frm.app (A := fun _ => False)).get h id
theorem lt_of_get {S : St} {l : Nat} {o : O} (h : S[l]? = some o) : l < S.length := (List.getElem?_eq_some_iff.mp h).1
theorem range_split {c a : Nat} {p l : List Nat} (h : List.range c = p ++ a :: l) : a = p.length := by
  have h1 : (List.range c)[p.length]? = some a := by rw [h]; simp
  rw [List.getElem?_range (by have := congrArg List.length h; simp at this; omega)] at h1
  simpa using h1.symm
theorem atI_of {xs : List D} {P : D → Prop} {i : Int} (h0 : 0 ≤ i) (h1 : i < xs.length) (h : ∀ x ∈ xs, P x) : ∃ x, P x ∧ atI xs i = some x := by
  obtain ⟨x, hx, _, e⟩ := atI_ok h0 h1
  exact ⟨x, h x hx, e⟩
theorem mem_of_tail {α : Type} {a : α} {r l : List α} (h : ∀ x ∈ a :: r, x ∈ l) : ∀ x ∈ r, x ∈ l := fun x hx => h x (List.mem_cons_of_mem _ hx)
theorem call_kinds {d : Dk} {B : Int} {S : St} (h : DkAt d B S) (hB : B + 100 ≤ 1000000) (n : Nat) : (call TT W (n + 2) 29 [.loc d.l] S).to fun x S' => ∃ ks, x = KD ks ∧ KOk ks ∧ DkAt d (B + 50) S' ∧ Frm d.A S S' := by
  show (runFn TT W (call TT W (n + 1)) f__law_kinds _ S).to _
  refine run_too rfl ?_
  unfold f__law_kinds
  obtain ⟨_, S1, e1, v, rfl, v0, v1, k1, fr1⟩ := call_next (W := W) h (by omega) n
  obtain ⟨_, S2, e2, b, rfl, b0, b1, k2, fr2⟩ := call_next (W := W) k1 (by omega) n
  have fr := fr1.trans fr2
  have hv : 0 ≤ v % 3 ∧ v % 3 < 3 := ⟨Int.emod_nonneg _ (by decide), Int.emod_lt_of_pos _ (by decide)⟩
  have hl1 : -(lim : Int) ≤ 1 + v % 3 ∧ 1 + v % 3 ≤ lim := by unfold lim; omega
  simp [exSs, exS, evE, evEs, evL, evIt, evC, evO, asgT, asgTs, wipe, itemsOf, idx_tup, at0, at1, at2, okO, cmpD, asBool, lstAt, gc_self, okG, c_str, c_int, c_non, e_str, e_int, e_non, rngD, mkLst, e1, e2, b_mod, b_add, hl1]
  have hcn : 0 < (1 + v % 3).toNat ∧ (1 + v % 3).toNat ≤ 3 := by omega
  generalize (1 + v % 3).toNat = cn at hcn
  have w1 : ∀ k ∈ List.range cn, ∀ S, call TT W (n + 1) 10 [.str [107], .int b, .int (k : Nat)] S = .ok (.str (wordS [107] b (k : Nat))) S := fun k hk S => by
    have := List.mem_range.mp hk
    exact call_word [107] b (k : Nat) n S (by decide) b0 b1 (by omega) (by omega)
  rw [compD_one (F := fun k : Nat => D.int (k : Nat)) (g := fun k => .str (wordS [107] b (k : Nat))) fun k hk => by simp [w1 k hk]]
  have hnm : ((List.range cn).map fun k => D.str (wordS [107] b (k : Nat))) = ((List.range cn).map fun k => wordS [107] b (k : Nat)).map .str := by rw [List.map_map]; rfl
  rw [hnm]
  have hnl : ((List.range cn).map fun k => wordS [107] b (k : Nat)).length = cn := by simp
  generalize ((List.range cn).map fun k => wordS [107] b (k : Nat)) = nms at hnl
  have hnlim : nms.length ≤ lim := by rw [hnl]; unfold lim; omega
  simp [exSs, exS, evE, evEs, evL, evIt, evC, evO, asgT, asgTs, wipe, itemsOf, idx_tup, at0, at1, at2, okO, cmpD, asBool, lstAt, gc_self, okG, c_str, c_int, c_non, e_str, e_int, e_non, rngD, mkLst, hnlim]
  have ll := k2.ll
  have fr3 : Frm d.A S (S2 ++ O.lst (nms.map .str) :: [O.lst []]) := fr.trans Frm.app
  have hSl := fr.1
  have nA : ∀ i, S2.length ≤ i → ¬ d.A i := fun i hi => by
    rintro (e | e | e)
    · have := ll.1; omega
    · have := ll.2.1; omega
    · have := ll.2.2; omega
  have gk : (S2 ++ O.lst (nms.map .str) :: [O.lst []])[S2.length]? = some (.lst (nms.map .str)) := by rw [List.getElem?_append_right (by omega)]; simp
  have gf : (S2 ++ O.lst (nms.map .str) :: [O.lst []])[S2.length + 1]? = some (.lst []) := by rw [List.getElem?_append_right (by omega), show S2.length + 1 - S2.length = 1 by omega]; rfl
  refine forD_to (F := D.str) (fun l σ S' => (∃ (m : Nat) (mi : Int) (fs : List Kd) (x6 x7 x8 x9 x10 x11 x12 : Option D), σ = [some (.loc d.l), some (.int v), some (.int b), some (.loc S2.length), some (.loc (S2.length + 1)), some (.int mi), x6, x7, x8, x9, x10, x11, x12] ∧ mi = (m : Nat) ∧
    S'[S2.length]? = some (.lst (nms.map .str)) ∧ S'[S2.length + 1]? = some (.lst (fs.map kdD)) ∧ fs.length + l.length = cn ∧ m ≤ 3 * fs.length ∧ (fs.flatMap (·.2)).map (·.1) = (List.range m).map (iw b) ∧ (∀ k ∈ fs, MOk k.2 ∧ 0 < k.2.length) ∧ DkAt d (B + 2 + 13 * fs.length) S' ∧ Frm d.A S S')) ?_ ?_ ?_ ?_
  · rintro l σ S' ⟨m, mi, fs, x6, x7, x8, x9, x10, x11, x12, rfl, hmi, q1, q2, _⟩
    simp [Gd.ok, q1]
  · rintro kind l σ S' ⟨m, mi, fs, x6, x7, x8, x9, x10, x11, x12, rfl, hmi, q1, q2, q3, q4, q5, q6, q7, q8⟩
    have nlk : ¬ d.A S2.length := nA _ (by omega)
    have nlf : ¬ d.A (S2.length + 1) := nA _ (by omega)
    have lf1 := lt_of_get q2
    have fl : fs.length + 1 ≤ 3 := by have := hcn.2; simp at q3; omega
    obtain ⟨_, S5, e5, dr, rfl, dr0, dr1, k5, fr5⟩ := call_next (W := W) (q7.app (X := [O.lst []])) (by omega) n
    have r1 := fr5.get (get_app q1) nlk
    have r2 := fr5.get (get_app q2) nlf
    have nlm : ¬ d.A S'.length := nA _ (by omega)
    have r3 : S5[S'.length]? = some (.lst []) := fr5.get (by simp) nlm
    obtain ⟨_, ⟨c, rfl, c0, c1⟩, ec⟩ := atI_of (xs := [D.int 2, .int 2, .int 3, .int 3, .int 1, .int 2]) (P := fun x => ∃ c : Int, x = .int c ∧ 1 ≤ c ∧ c ≤ 3) (i := dr % 6) (by omega) (by simp; omega) (by
      intro x hx
      simp only [List.mem_cons, List.not_mem_nil, or_false] at hx
      rcases hx with h | h | h | h | h | h <;> exact ⟨_, h, by decide, by decide⟩)
    have cl : -(lim : Int) ≤ c ∧ c ≤ lim := by unfold lim; omega
    simp [exSs, exS, evE, evEs, evL, evIt, evC, evO, asgT, asgTs, wipe, itemsOf, idx_tup, at0, at1, at2, okO, cmpD, asBool, lstAt, gc_self, okG, c_str, c_int, c_non, e_str, e_int, e_non, rngD, mkLst, e5, b_mod, ec, cl]
    have fr6 : Frm d.A S S5 := (q8.trans Frm.app).trans fr5
    generalize hcc : c.toNat = cc
    have hcc1 : 1 ≤ cc ∧ cc ≤ 3 := by omega
    refine forD_to (F := fun k : Nat => D.int (k : Nat)) (fun l2 σ S'' => (∃ (pre : List Nat) (mi : Int) (ms : List Mk) (x9 x10 x11 x12 : Option D), σ = [some (.loc d.l), some (.int v), some (.int b), some (.loc S2.length), some (.loc (S2.length + 1)), some (.int mi), some (.str kind), some (.loc S'.length), some (.int dr), x9, x10, x11, x12] ∧ mi = m + ms.length ∧
      List.range cc = pre ++ l2 ∧ pre.length = ms.length ∧ S''[S2.length]? = some (.lst (nms.map .str)) ∧ S''[S2.length + 1]? = some (.lst (fs.map kdD)) ∧ S''[S'.length]? = some (.lst (ms.map mkD)) ∧ ms.map (·.1) = (List.range' m ms.length).map (iw b) ∧
      (∀ m, ms[0]? = some m → m.2 = []) ∧ (∀ m ∈ ms, m.2.length ≤ 3) ∧ DkAt d (B + 3 + 13 * fs.length + 4 * ms.length) S'' ∧ Frm d.A S S'')) (fun _ _ _ _ => rfl) ?_ ?_ ⟨[], mi, [], _, _, _, _, rfl, by simpa using hmi, rfl, rfl, r1, r2, r3, rfl, by simp, by simp, k5.le (by simp; omega), fr6⟩
    · rintro at_ l2 σ S'' ⟨pre, mi', ms, x9, x10, x11, x12, rfl, hmi', t1, t2, t3, t4, t5, t6, t7, t8, t9, t10⟩
      have hat := range_split t1
      have hml : ms.length < 3 := by
        have := congrArg List.length t1
        simp at this
        omega
      have hl2 := lt_of_get t5
      obtain ⟨_, S7, e7, z, rfl, z0, z1, k7, fr7⟩ := call_next (W := W) (t9.app (X := [O.lst []])) (by omega) n
      have u1 := fr7.get (get_app t3) nlk
      have u2 := fr7.get (get_app t4) nlf
      have u3 := fr7.get (get_app t5) nlm
      have nlp : ¬ d.A S''.length := nA _ (by omega)
      have u4 : S7[S''.length]? = some (.lst []) := fr7.get (by simp) nlp
      obtain ⟨_, ⟨pc, rfl, pc0, pc1⟩, epc⟩ := atI_of (xs := [D.int 0, .int 1, .int 1, .int 2, .int 2, .int 3]) (P := fun x => ∃ c : Int, x = .int c ∧ 0 ≤ c ∧ c ≤ 3) (i := z % 6) (by omega) (by simp; omega) (by
        intro x hx
        simp only [List.mem_cons, List.not_mem_nil, or_false] at hx
        rcases hx with h | h | h | h | h | h <;> exact ⟨_, h, by decide, by decide⟩)
      have bi : ∀ (bb : Bool) (S : St), bltD .int [.bl bb] S = .ok (.int (if bb then 1 else 0)) S := fun _ _ => rfl
      have bm : ∀ (j : Int) (S : St), binD .mul (.int pc) (.int j) S = .ok (.int (pc * j)) S := fun j S => b_mul (.inl (smallI (by omega) (by omega)))
      simp [exSs, exS, evE, evEs, evL, evIt, evC, evO, asgT, asgTs, wipe, itemsOf, idx_tup, at0, at1, at2, okO, cmpD, asBool, lstAt, gc_self, okG, c_str, c_int, c_non, e_str, e_int, e_non, rngD, mkLst, e7, b_mod, epc, bi, bm]
      have hcnt : 0 ≤ (if at_ = 0 then 0 else pc) ∧ (if at_ = 0 then 0 else pc) ≤ 3 ∧ (at_ = 0 → (if at_ = 0 then 0 else pc) = 0) := by
        by_cases h : at_ = 0 <;> simp [h, pc0, pc1]
      have hcnt2 : pc * (if 0 < at_ then 1 else 0) = if at_ = 0 then 0 else pc := by
        by_cases h : at_ = 0
        · simp [h]
        · have : 0 < at_ := by omega
          simp [h, this]
      rw [hcnt2]
      generalize (if at_ = 0 then 0 else pc) = ci at hcnt
      obtain ⟨ci0, ci1, ci2⟩ := hcnt
      have cil : -(lim : Int) ≤ ci ∧ ci ≤ lim := by unfold lim; omega
      simp [exSs, exS, evE, evEs, evL, evIt, evC, evO, asgT, asgTs, wipe, itemsOf, idx_tup, at0, at1, at2, okO, cmpD, asBool, lstAt, gc_self, okG, c_str, c_int, c_non, e_str, e_int, e_non, rngD, mkLst, cil]
      generalize hci : ci.toNat = cj
      have hcj : cj ≤ 3 ∧ (at_ = 0 → cj = 0) := ⟨by omega, fun h => by have := ci2 h; omega⟩
      refine forD_to (F := fun k : Nat => D.int (k : Nat)) (fun l3 σ S8 => (∃ (ps : List Sg) (x11 x12 : Option D), σ = [some (.loc d.l), some (.int v), some (.int b), some (.loc S2.length), some (.loc (S2.length + 1)), some (.int mi'), some (.str kind), some (.loc S'.length), some (.int dr), some (.int (at_ : Nat)), some (.loc S''.length), x11, x12] ∧
        ps.length + l3.length = cj ∧ S8[S2.length]? = some (.lst (nms.map .str)) ∧ S8[S2.length + 1]? = some (.lst (fs.map kdD)) ∧ S8[S'.length]? = some (.lst (ms.map mkD)) ∧ S8[S''.length]? = some (.lst (ps.map .str)) ∧
        DkAt d (B + 4 + 13 * fs.length + 4 * ms.length + ps.length) S8 ∧ Frm d.A S S8)) (fun _ _ _ _ => rfl) ?_ ?_ ⟨[], _, _, rfl, by simp, u1, u2, u3, u4, k7.le (by simp; omega), (t10.trans Frm.app).trans fr7⟩
      · rintro pk l3 σ S8 ⟨ps, x11, x12, rfl, w1, w2, w3, w4, w5, w6, w7⟩
        have hpl : ps.length < 3 := by simp at w1; omega
        obtain ⟨_, S9, e9, y, rfl, y0, y1, k9, fr9⟩ := call_next (W := W) w6 (by omega) n
        have z1' := fr9.get w2 nlk
        have z2' := fr9.get w3 nlf
        have z3' := fr9.get w4 nlm
        have z4' := fr9.get w5 nlp
        have ln : bltD .len [.loc S2.length] S9 = .ok (.int (nms.length : Nat)) S9 := by simp [bltD, z1']
        have md : binD .mod (.int y) (.int ((nms.length : Nat) + 3)) S9 = .ok (.int (y % ((nms.length : Nat) + 3))) S9 := b_mod (by omega) (by omega)
        have y2 : 0 ≤ y % ((nms.length : Nat) + 3) := Int.emod_nonneg _ (by omega)
        have y3 : y % ((nms.length : Nat) + 3) < (nms.length : Nat) + 3 := Int.emod_lt_of_pos _ (by omega)
        obtain ⟨_, ⟨ss, rfl⟩, ea⟩ := atI_of (xs := [D.str kind, .str kind] ++ nms.map .str ++ [.str [116, 114, 117, 116, 104]]) (P := fun x => ∃ c : Sg, x = .str c) (i := y % ((nms.length : Nat) + 3)) y2 (by simp; omega) (by
          intro x hx
          simp only [List.mem_append, List.mem_cons, List.not_mem_nil, or_false, List.mem_map] at hx
          rcases hx with ((h | h) | ⟨_, _, h⟩) | h
          · exact ⟨_, h⟩
          · exact ⟨_, h⟩
          · exact ⟨_, h.symm⟩
          · exact ⟨_, h⟩)
        simp at ea
        have hl4 : 2 + nms.length ≤ lim := by unfold lim; omega
        have hl5 : nms.length + 1 + 1 + 1 ≤ lim := by unfold lim; omega
        have hpz : (ps.map D.str).length < lim := by simp; unfold lim; omega
        simp [exSs, exS, evE, evEs, evL, evIt, evC, evO, asgT, asgTs, wipe, itemsOf, idx_tup, at0, at1, at2, okO, cmpD, asBool, lstAt, gc_self, okG, c_str, c_int, c_non, e_str, e_int, e_non, rngD, mkLst, e9, ok_app z4', m_append z4' hpz, z1', ln, b_add, md, ea, Gd.ok, hl4, hl5]
        have d1 : S''.length ≠ S2.length := by omega
        have d2 : S''.length ≠ S2.length + 1 := by omega
        have d3 : S''.length ≠ S'.length := by omega
        refine ⟨ps ++ [ss], by simp at w1 ⊢; omega, ?_, ?_, ?_, ?_, (k9.set nlp).le (by simp; omega), (w7.trans fr9).set_new (by have := t10.1; omega)⟩
        · rw [get_set_ne d1]; exact z1'
        · rw [get_set_ne d2]; exact z2'
        · rw [get_set_ne d3]; exact z3'
        · rw [get_set z4']; simp
      · rintro σ S8 ⟨ps, x11, x12, rfl, w1, w2, w3, w4, w5, w6, w7⟩
        have hw := call_word (W := W) [109] b mi' n S8 (by decide) b0 b1 (by omega) (by omega)
        have hmz : (ms.map mkD).length < lim := by simp; unfold lim; omega
        have tp : bltD .tup [.loc S''.length] S8 = .ok (.tup (ps.map .str)) S8 := by simp [bltD, itemsOf, lstAt, w5]
        simp [exSs, exS, evE, evEs, evL, evIt, evC, evO, asgT, asgTs, wipe, itemsOf, idx_tup, at0, at1, at2, okO, cmpD, asBool, lstAt, gc_self, okG, c_str, c_int, c_non, e_str, e_int, e_non, rngD, mkLst, ok_app w4, hw, tp, m_append w4 hmz, b_add]
        have d1 : S'.length ≠ S2.length := by omega
        have d2 : S'.length ≠ S2.length + 1 := by omega
        simp at w1
        refine ⟨pre ++ [at_], ms ++ [(wordS [109] b mi', ps)], by simp; omega, by rw [t1]; simp, by simp [t2], ?_, ?_, ?_, ?_, ?_, ?_, (w6.set nlm).le (by simp; omega), w7.set_new (by have := q8.1; omega)⟩
        · rw [get_set_ne d1]; exact w2
        · rw [get_set_ne d2]; exact w3
        · rw [get_set w4]; simp [mkD]
        · have e : mi' = ((m + ms.length : Nat) : Int) := by omega
          simp [List.range'_concat, t6, iw, e]
        · intro a bb hx
          cases ms with
          | nil =>
            simp at hx
            have h0 : at_ = 0 := by rw [hat]; simpa using t2
            have := hcj.2 h0
            rw [← hx.2]
            exact List.eq_nil_of_length_eq_zero (by omega)
          | cons p r =>
            simp at hx
            exact t7 (a, bb) (by simp [hx])
        · intro a bb hx
          simp only [List.mem_append, List.mem_singleton, Prod.mk.injEq] at hx
          rcases hx with hx | ⟨rfl, rfl⟩
          · exact t8 _ hx
          · omega
    · rintro σ S'' ⟨pre, mi', ms, x9, x10, x11, x12, rfl, hmi', t1, t2, t3, t4, t5, t6, t7, t8, t9, t10⟩
      have hml : ms.length = cc := by
        have := congrArg List.length t1
        simp at this
        omega
      have hfz : (fs.map kdD).length < lim := by simp; unfold lim; omega
      have tp : bltD .tup [.loc S'.length] S'' = .ok (.tup (ms.map mkD)) S'' := by simp [bltD, itemsOf, lstAt, t5]
      simp [exSs, exS, evE, evEs, evL, evIt, evC, evO, asgT, asgTs, wipe, itemsOf, idx_tup, at0, at1, at2, okO, cmpD, asBool, lstAt, gc_self, okG, c_str, c_int, c_non, e_str, e_int, e_non, rngD, mkLst, ok_app t4, tp, m_append t4 hfz]
      have d1 : S2.length + 1 ≠ S2.length := by omega
      refine ⟨m + ms.length, by simp; omega, t3, fs ++ [(kind, ms)], ?_, by simp at q3 ⊢; omega, by simp; omega, ?_, ?_, (t9.set nlf).le (by simp; omega), t10.set_new (by omega)⟩
      · rw [get_set t4]; simp [kdD]
      · rw [List.flatMap_append, List.map_append, q5, List.flatMap_singleton, t6, ← List.map_append, List.range_add, List.range'_eq_map_range]
      · intro a bb hx
        simp only [List.mem_append, List.mem_singleton, Prod.mk.injEq] at hx
        rcases hx with hx | ⟨rfl, rfl⟩
        · exact q6 _ hx
        · exact ⟨⟨by omega, t7, t8⟩, by omega⟩
  · rintro σ S' ⟨m, mi, fs, x6, x7, x8, x9, x10, x11, x12, rfl, hmi, q1, q2, q3, q4, q5, q6, q7, q8⟩
    simp at q3
    simp [exSs, exS, evE, evEs, evL, evIt, evC, evO, asgT, asgTs, wipe, itemsOf, idx_tup, at0, at1, at2, okO, cmpD, asBool, lstAt, gc_self, okG, c_str, c_int, c_non, e_str, e_int, e_non, rngD, mkLst, bltD, q2, finD]
    refine gc_to ⟨fs, rfl, ⟨by omega, by omega, q6, b, m, by omega, q5⟩, q7.le (by omega), q8⟩ fun _ => ⟨fs, rfl, ⟨by omega, by omega, q6, b, m, by omega, q5⟩, h.le (by omega), Frm.refl⟩
  · exact ⟨0, 0, [], _, _, _, _, _, _, _, rfl, rfl, gk, gf, by simp [hnl], by simp, rfl, by simp, (k2.app).le (by simp; omega), fr3⟩
end
end Hd
end
section
set_option linter.all false
set_option maxRecDepth 10000
namespace Hd
open ML
def sYes : Sg := [121, 101, 115]
def sNo : Sg := [110, 111]
def truthMk : List Mk := [(sYes, []), (sNo, [])]
def makersOf (ks : List Kd) (k : Sg) : List Mk := match ks.find? fun p => p.1 = k with
  | some p => p.2
  | none => truthMk
theorem truth_ok : MOk truthMk := ⟨by decide, fun m h => by simp [truthMk] at h; rw [← h], fun m h => by simp [truthMk] at h; rcases h with h | h <;> simp [h]⟩
theorem makers_ok {ks : List Kd} (h : KOk ks) (k : Sg) : MOk (makersOf ks k) ∧ 0 < (makersOf ks k).length := by
  unfold makersOf
  split
  · rename_i p e
    exact h.mks p (List.mem_of_find?_eq_some e)
  · exact ⟨truth_ok, by decide⟩
theorem KOk.nodup {ks : List Kd} (h : KOk ks) : ((ks.flatMap (·.2)).map (·.1)).Nodup := by
  obtain ⟨b, m, hm, e⟩ := h.words
  rw [e]
  refine List.pairwise_map.mpr (List.Pairwise.imp_of_mem (fun {x y} hx hy ne e => ne ?_) List.nodup_range)
  have := List.mem_range.mp hx
  have := List.mem_range.mp hy
  have := wordS_inj (by omega) (by omega) (by omega) (by omega) e
  omega
theorem KOk.head {ks : List Kd} (h : KOk ks) {m : Mk} (hm : m ∈ ks.flatMap (·.2)) : m.1.head? = some 109 ∧ m.1.length ≤ 4 := by
  obtain ⟨b, n, hn, e⟩ := h.words
  have : m.1 ∈ (ks.flatMap (·.2)).map (·.1) := List.mem_map_of_mem hm
  rw [e] at this
  obtain ⟨i, _, e⟩ := List.mem_map.mp this
  rw [← e]
  exact ⟨rfl, wordS_len⟩
theorem nodup_fst {α β : Type} {l : List (α × β)} (h : (l.map (·.1)).Nodup) {a : α} {b c : β} (h1 : (a, b) ∈ l) (h2 : (a, c) ∈ l) : b = c := by
  induction l with
  | nil => cases h1
  | cons p r ih =>
    rw [List.map_cons, List.nodup_cons] at h
    rcases List.mem_cons.mp h1 with e1 | e1
    · rcases List.mem_cons.mp h2 with e2 | e2
      · rw [← e1] at e2; exact (Prod.mk.inj e2).2.symm
      · rw [← e1] at h
        exact absurd (List.mem_map_of_mem (f := (·.1)) e2) h.1
    · rcases List.mem_cons.mp h2 with e2 | e2
      · rw [← e2] at h
        exact absurd (List.mem_map_of_mem (f := (·.1)) e1) h.1
      · exact ih h.2 e1 e2
theorem makers_mem {ks : List Kd} {k : Sg} {m : Mk} (h : m ∈ makersOf ks k) : m ∈ ks.flatMap (·.2) ∨ m ∈ truthMk := by
  unfold makersOf at h
  split at h
  · rename_i p e
    exact .inl (List.mem_flatMap.mpr ⟨p, List.mem_of_find?_eq_some e, h⟩)
  · exact .inr h
theorem makers_fun {ks : List Kd} (K : KOk ks) {k k' : Sg} {w : Sg} {ps qs : List Sg} (h : (w, ps) ∈ makersOf ks k) (g : (w, qs) ∈ makersOf ks k') : ps = qs := by
  have tr : ∀ {w ps}, (w, ps) ∈ truthMk → ps = [] ∧ w.head? ≠ some 109 := fun h => by
    simp [truthMk] at h
    rcases h with ⟨rfl, rfl⟩ | ⟨rfl, rfl⟩ <;> exact ⟨rfl, by decide⟩
  rcases makers_mem h with h | h <;> rcases makers_mem g with g | g
  · exact nodup_fst K.nodup h g
  · exact absurd (K.head h).1 (tr g).2
  · exact absurd (K.head g).1 (tr h).2
  · rw [(tr h).1, (tr g).1]
theorem makers_len {ks : List Kd} (K : KOk ks) {k : Sg} {m : Mk} (h : m ∈ makersOf ks k) : m.1.length ≤ 4 := by
  rcases makers_mem h with h | h
  · exact (K.head h).2
  · simp [truthMk] at h; rcases h with h | h <;> simp [h, sYes, sNo]
section
variable {W : Nat}
theorem call_makers (ks : List Kd) (k : Sg) (n : Nat) (S : St) : call TT W (n + 1) 15 [KD ks, .str k] S = .ok (.tup ((makersOf ks k).map mkD)) S := by
  show runFn TT W (call TT W n) f__law_makers _ S = _
  refine run_to rfl ?_
  unfold f__law_makers KD
  simp [exSs, exS, evE, evEs, evL, evIt, evC, evO, asgT, asgTs, wipe, itemsOf, idx_tup, at0, at1, at2, okO, cmpD, asBool, lstAt, gc_self, okG, c_str, c_int, c_non, e_str, e_int, e_non, rngD, mkLst]
  refine forD_to (F := kdD) (fun l σ S' => S' = S ∧ (∃ a b, σ = [some (.tup (ks.map kdD)), some (.str k), a, b]) ∧ makersOf l k = makersOf ks k) (fun _ _ _ _ => rfl) ?_ ?_ ⟨rfl, ⟨_, _, rfl⟩, rfl⟩
  · rintro p l σ S' ⟨rfl, ⟨a, b, rfl⟩, e⟩
    by_cases h : p.1 = k
    · simp [exSs, exS, evE, evEs, evL, evIt, evC, evO, asgT, asgTs, wipe, itemsOf, idx_tup, at0, at1, at2, okO, cmpD, asBool, lstAt, gc_self, okG, c_str, c_int, c_non, e_str, e_int, e_non, rngD, mkLst, kdD, h, finD]
      rw [← e]
      simp [makersOf, h, mkD]
    · simp [exSs, exS, evE, evEs, evL, evIt, evC, evO, asgT, asgTs, wipe, itemsOf, idx_tup, at0, at1, at2, okO, cmpD, asBool, lstAt, gc_self, okG, c_str, c_int, c_non, e_str, e_int, e_non, rngD, mkLst, kdD, h]
      rw [← e]
      simp [makersOf, h]
  · rintro σ S' ⟨rfl, ⟨a, b, rfl⟩, e⟩
    simp [exSs, exS, evE, evEs, evL, evIt, evC, evO, asgT, asgTs, wipe, itemsOf, idx_tup, at0, at1, at2, okO, cmpD, asBool, lstAt, gc_self, okG, c_str, c_int, c_non, e_str, e_int, e_non, rngD, mkLst, finD]
    rw [← e]
    rfl
/-- names asked, with kinds -/
abbrev Ns := List (Sg × Sg)
def nsD (p : Sg × Sg) : D := .tup [.str p.1, .str p.2]
def NsD (l : Ns) : D := .tup (l.map nsD)
theorem call_asked {d : Dk} {B : Int} {S : St} (h : DkAt d B S) (hB : B + 100 ≤ 1000000) (ks : List Kd) (hk : ks.length ≤ 3) (n : Nat) : (call TT W (n + 2) 28 [.loc d.l, KD ks] S).to fun x S' => ∃ ns : Ns, x = NsD ns ∧ 0 < ns.length ∧ ns.length ≤ 4 ∧ DkAt d (B + 10) S' ∧ Frm d.A S S' := by
  show (runFn TT W (call TT W (n + 1)) f__law_asked_names _ S).to _
  refine run_too rfl ?_
  unfold f__law_asked_names KD
  have hl : ks.length + 1 ≤ lim := by unfold lim; omega
  simp [exSs, exS, evE, evEs, evL, evIt, evC, evO, asgT, asgTs, wipe, itemsOf, idx_tup, at0, at1, at2, okO, cmpD, asBool, lstAt, gc_self, okG, c_str, c_int, c_non, e_str, e_int, e_non, rngD, mkLst]
  rw [compD_one (F := kdD) (g := fun k => .str k.1) fun k hk => by simp [kdD, idx_tup, at0, okO]]
  simp [exSs, exS, evE, evEs, evL, evIt, evC, evO, asgT, asgTs, wipe, itemsOf, idx_tup, at0, at1, at2, okO, cmpD, asBool, lstAt, gc_self, okG, c_str, c_int, c_non, e_str, e_int, e_non, rngD, mkLst, hl]
  generalize hL : (ks.map fun k => D.str k.1) ++ [D.str [116, 114, 117, 116, 104]] = L
  have hLl : L.length = ks.length + 1 := by rw [← hL]; simp
  have hLs : ∀ x ∈ L, ∃ s, x = .str s := by
    rw [← hL]
    intro x hx
    simp only [List.mem_append, List.mem_map, List.mem_singleton] at hx
    rcases hx with ⟨k, _, e⟩ | e
    · exact ⟨_, e.symm⟩
    · exact ⟨_, e⟩
  obtain ⟨_, S1, e1, v, rfl, v0, v1, k1, fr1⟩ := call_next (W := W) (h.app (X := [O.lst L])) (by omega) n
  have ll := h.ll
  have nA : ¬ d.A S.length := by
    rintro (e | e | e)
    · have := ll.1; omega
    · have := ll.2.1; omega
    · have := ll.2.2; omega
  have g1 : S1[S.length]? = some (.lst L) := fr1.get (by simp) nA
  have hr : -(lim : Int) ≤ 1 + v % 4 ∧ 1 + v % 4 ≤ lim := by unfold lim; omega
  simp [exSs, exS, evE, evEs, evL, evIt, evC, evO, asgT, asgTs, wipe, itemsOf, idx_tup, at0, at1, at2, okO, cmpD, asBool, lstAt, gc_self, okG, c_str, c_int, c_non, e_str, e_int, e_non, rngD, mkLst, e1, b_mod, b_add, hr]
  have hc : 0 < (1 + v % 4).toNat ∧ (1 + v % 4).toNat ≤ 4 := by omega
  generalize (1 + v % 4).toNat = c at hc
  refine lft_to ?_
  simp [exSs, exS, evE, evEs, evL, evIt, evC, evO, asgT, asgTs, wipe, itemsOf, idx_tup, at0, at1, at2, okO, cmpD, asBool, lstAt, gc_self, okG, c_str, c_int, c_non, e_str, e_int, e_non, rngD, mkLst]
  refine compD_to (F := fun k : Nat => D.int (k : Nat)) (fun l a S' => ∃ (pre : List Nat) (ns : Ns), List.range c = pre ++ l ∧ pre.length = ns.length ∧ a = ns.map nsD ∧ S'[S.length]? = some (.lst L) ∧ DkAt d (B + 1 + ns.length) S' ∧ Frm d.A S S') ⟨[], [], rfl, rfl, rfl, g1, k1.le (by simp), Frm.app.trans fr1⟩ (fun _ _ _ _ => rfl) ?_ ?_
  · rintro k l a S' ⟨pre, ns, t1, t2, rfl, t4, t5, t6⟩
    have hk := range_split t1
    have hkc : k < c := by have := congrArg List.length t1; simp at this; omega
    obtain ⟨_, ⟨x, rfl⟩, ex⟩ := atI_of (xs := [D.str [120], .str [121, 121], .str [122, 101, 116, 97], .str [98]]) (P := fun x => ∃ s, x = .str s) (i := (k : Int)) (by omega) (by simp; omega) (by
      intro x hx
      simp only [List.mem_cons, List.not_mem_nil, or_false] at hx
      rcases hx with h | h | h | h <;> exact ⟨_, h⟩)
    obtain ⟨_, S5, e5, y, rfl, y0, y1, k5, fr5⟩ := call_next (W := W) t5 (by omega) n
    have g5 := fr5.get t4 nA
    have ln : bltD .len [.loc S.length] S5 = .ok (.int (L.length : Nat)) S5 := by simp [bltD, g5]
    have md : binD .mod (.int y) (.int (L.length : Nat)) S5 = .ok (.int (y % (L.length : Nat))) S5 := b_mod (by omega) (by omega)
    obtain ⟨_, ⟨z, rfl⟩, ez⟩ := atI_of (xs := L) (i := y % (L.length : Nat)) (Int.emod_nonneg _ (by omega)) (Int.emod_lt_of_pos _ (by omega)) hLs
    have iz := idx_loc (i := y % (L.length : Nat)) g5
    simp only [ez, okO] at iz
    simp [exSs, exS, evE, evEs, evL, evIt, evC, evO, asgT, asgTs, wipe, itemsOf, idx_tup, at0, at1, at2, okO, cmpD, asBool, lstAt, gc_self, okG, c_str, c_int, c_non, e_str, e_int, e_non, rngD, mkLst, ex, Gd.ok, e5, ln, md, iz]
    exact ⟨pre ++ [k], by rw [t1]; simp, ns ++ [(x, z)], by simp [t2], by simp [nsD], g5, k5.le (by simp; omega), t6.trans fr5⟩
  · rintro a S' ⟨pre, ns, t1, t2, rfl, t4, t5, t6⟩
    have hl : ns.length = c := by have := congrArg List.length t1; simp at this; omega
    simp [exSs, exS, evE, evEs, evL, evIt, evC, evO, asgT, asgTs, wipe, itemsOf, idx_tup, at0, at1, at2, okO, cmpD, asBool, lstAt, gc_self, okG, c_str, c_int, c_non, e_str, e_int, e_non, rngD, mkLst, lbD, finD]
    refine gc_to ⟨ns, rfl, by omega, by omega, t5.le (by omega), t6⟩ fun _ => ⟨ns, rfl, by omega, by omega, h.le (by omega), Frm.refl⟩
end
end Hd
end
section
set_option linter.all false
set_option maxRecDepth 10000
namespace Hd
open ML
theorem cut63 {α : Type} {xs : List α} (h : xs.length ≤ 63) : cut xs none (some 63) = xs := by
  simp only [cut, cutAt]
  rw [if_neg (by decide)]
  simp only [List.drop_zero, Nat.sub_zero]
  rw [List.take_of_length_le]
  have : (63 : Int).toNat = 63 := rfl
  omega
theorem compD_oneG {α : Type} {f : D → St → Out (List D)} {S : St} {F : α → D} {G : α → D} {g : Gd} (hg : g.ok S = true) : ∀ {ts : List α}, (∀ t ∈ ts, f (F t) S = .ok [G t] S) → compD g f (ts.map F) S = .ok (ts.map G) S
  | [], _ => by simp [compD, hg]
  | t :: ts, h => by
    have h1 := h t (by simp)
    have h2 := compD_oneG (f := f) (F := F) (G := G) hg (ts := ts) fun t ht => h t (List.mem_cons_of_mem _ ht)
    simp [compD, hg, h1, h2]
section
variable {W : Nat}
theorem call_deck (ns : List Int) (hn : ns.length ≤ 63) (n : Nat) : (call TT W (n + 1) 30 [.rol (ns.map .int)] []).to fun x S' => ∃ d : Dk, x = .loc d.l ∧ DkAt d 0 S' := by
  show (runFn TT W (call TT W n) f__law_deck _ _).to _
  refine run_too rfl ?_
  unfold f__law_deck
  have hl : (ns.map D.int).length ≤ 63 := by simpa using hn
  have bi : ∀ (bb : Bool) (S : St), bltD .int [.bl bb] S = .ok (.int (if bb then 1 else 0)) S := fun _ _ => rfl
  have bl : ∀ S, bltD .len [.rol (ns.map D.int)] S = .ok (.int (ns.length : Nat)) S := fun S => by simp [bltD]
  have ba : ∀ (i : Int) S, bltD .abs [.int i] S = .ok (.int (if i < 0 then -i else i)) S := fun _ _ => rfl
  have one : 1 ≤ lim := by decide
  simp [exSs, exS, evE, evEs, evL, evIt, evC, evO, asgT, asgTs, wipe, itemsOf, idx_tup, at0, at1, at2, okO, cmpD, asBool, lstAt, gc_self, okG, c_str, c_int, c_non, e_str, e_int, e_non, rngD, mkLst, Gd.ok, cut63 hl]
  rw [compD_one (F := D.int) (g := fun i => .int (if i < 0 then -i else i)) fun i hi => by simp [exSs, exS, evE, evEs, evL, evIt, evC, evO, asgT, asgTs, wipe, itemsOf, idx_tup, at0, at1, at2, okO, cmpD, asBool, lstAt, gc_self, okG, c_str, c_int, c_non, e_str, e_int, e_non, rngD, mkLst, ba]]
  have hlm : ns.length ≤ lim := by unfold lim; omega
  have hlm1 : ns.length + 1 ≤ lim := by unfold lim; omega
  simp [exSs, exS, evE, evEs, evL, evIt, evC, evO, asgT, asgTs, wipe, itemsOf, idx_tup, at0, at1, at2, okO, cmpD, asBool, lstAt, gc_self, okG, c_str, c_int, c_non, e_str, e_int, e_non, rngD, mkLst, one, bl, bi]
  obtain ⟨zi, hz1, hz2, hz3⟩ : ∃ zi : List Int, zi.length ≤ 1 ∧ 0 < ns.length + zi.length ∧ binD .mul (.loc 0) (.int (if ns = [] then 1 else 0)) [O.lst [D.int 0]] = .ok (.loc 1) [O.lst [D.int 0], O.lst (zi.map .int)] := by
    by_cases h : ns = []
    · refine ⟨[0], by simp, by simp, ?_⟩
      simp [h, binD, mkLst, one]
    · refine ⟨[], by simp, by simp; exact List.length_pos_iff.mpr h, ?_⟩
      simp [h, binD, mkLst, lim]
  have hz4 : ns.length + zi.length ≤ lim := by unfold lim; omega
  simp [exSs, exS, evE, evEs, evL, evIt, evC, evO, asgT, asgTs, wipe, itemsOf, idx_tup, at0, at1, at2, okO, cmpD, asBool, lstAt, gc_self, okG, c_str, c_int, c_non, e_str, e_int, e_non, rngD, mkLst, hz3, hz4]
  have hcs : (ns.map fun i => D.int (if i < 0 then -i else i)) ++ zi.map .int = ((ns.map fun i => if i < 0 then -i else i) ++ zi).map .int := by simp
  rw [hcs]
  have hcl : ((ns.map fun i => if i < 0 then -i else i) ++ zi).length = ns.length + zi.length := by simp
  generalize ((ns.map fun i => if i < 0 then -i else i) ++ zi) = cs at hcl
  have hcl2 : cs.length ≤ lim := by omega
  have hp : ∀ S, binD .pow (.int 10) (.int 18) S = .ok (.int 1000000000000000000) S := fun S => by rw [b_pow (by decide) (by decide) (by decide)]; rfl
  have hm : ∀ (i : Int) (bb : Bool) S, binD .mul (.int i) (.int (if bb then 1 else 0)) S = .ok (.int (i * (if bb then 1 else 0))) S := fun i bb S => b_mul (.inr (by cases bb <;> decide))
  simp [exSs, exS, evE, evEs, evL, evIt, evC, evO, asgT, asgTs, wipe, itemsOf, idx_tup, at0, at1, at2, okO, cmpD, asBool, lstAt, gc_self, okG, c_str, c_int, c_non, e_str, e_int, e_non, rngD, mkLst, hp]
  rw [compD_oneG (F := D.int) (G := fun i => .int (i * (if decide (1000000000000000000 ≤ i) then 1 else 0))) (by simp [Gd.ok]) fun i hi => by
    have := hm i (decide (1000000000000000000 ≤ i))
    simp only [decide_eq_true_eq] at this
    simp [exSs, exS, evE, evEs, evL, evIt, evC, evO, asgT, asgTs, wipe, itemsOf, idx_tup, at0, at1, at2, okO, cmpD, asBool, lstAt, gc_self, okG, c_str, c_int, c_non, e_str, e_int, e_non, rngD, mkLst, bi, this]]
  have hrs : (cs.map fun i => D.int (i * (if decide (1000000000000000000 ≤ i) then 1 else 0))) = (cs.map fun i => i * (if decide (1000000000000000000 ≤ i) then 1 else 0)).map .int := by rw [List.map_map]; rfl
  rw [hrs]
  have hrl : (cs.map fun i => i * (if decide (1000000000000000000 ≤ i) then 1 else 0)).length = cs.length := by simp
  generalize (cs.map fun i => i * (if decide (1000000000000000000 ≤ i) then 1 else 0)) = rs at hrl
  have hrl2 : rs.length ≤ lim := by omega
  have l3 : 3 ≤ lim := by decide
  simp [exSs, exS, evE, evEs, evL, evIt, evC, evO, asgT, asgTs, wipe, itemsOf, idx_tup, at0, at1, at2, okO, cmpD, asBool, lstAt, gc_self, okG, c_str, c_int, c_non, e_str, e_int, e_non, rngD, mkLst, hrl2, l3, finD]
  have G : DkAt ⟨4, 2, 3⟩ 0 [O.lst [D.int 0], O.lst (zi.map .int), O.lst (cs.map .int), O.lst (rs.map .int), O.lst [.loc 2, .int 0, .loc 3]] :=
    ⟨by decide, cs, rs, 0, rfl, rfl, rfl, by omega, by omega, hrl, by decide, by decide⟩
  exact to_of_eq (by simp [gc, D.und]) ⟨⟨4, 2, 3⟩, rfl, G⟩
end
end Hd
end
section
set_option linter.all false
set_option maxRecDepth 10000
namespace Hd
open ML
/-- names in order, from so many to so many -/
inductive Ord : Nat → List Sg → Nat → Prop where
  | nil (m : Nat) : Ord m [] m
  | old {m i m' : Nat} {xs : List Sg} (h : i < m) (r : Ord m xs m') : Ord m (num (i + 1) :: xs) m'
  | new {m m' : Nat} {xs : List Sg} (r : Ord (m + 1) xs m') : Ord m (num (m + 1) :: xs) m'
theorem Ord.app {a b c : Nat} {xs ys : List Sg} (h : Ord a xs b) (g : Ord b ys c) : Ord a (xs ++ ys) c := by
  induction h with
  | nil => exact g
  | old h r ih => exact .old h (ih g)
  | new r ih => exact .new (ih g)
theorem Ord.le {a b : Nat} {xs : List Sg} (h : Ord a xs b) : a ≤ b := by
  induction h with
  | nil => exact Nat.le_refl _
  | old h r ih => exact ih
  | new r ih => omega
mutual
def OfK (ks : List Kd) (k : Sg) : Tm → Prop
  | .nm _ => True
  | .mk w ts => ∃ ps, (w, ps) ∈ makersOf ks k ∧ OfKs ks ps ts
def OfKs (ks : List Kd) (ps : List Sg) : List Tm → Prop
  | [] => ps = []
  | t :: ts => ∃ p r, ps = p :: r ∧ OfK ks p t ∧ OfKs ks r ts
end
theorem OfKs.snoc {ks : List Kd} : ∀ {ts : List Tm} {ps : List Sg} {t : Tm} {p : Sg}, OfKs ks ps ts → OfK ks p t → OfKs ks (ps ++ [p]) (ts ++ [t])
  | [], ps, t, p, h, g => by
    simp only [OfKs] at h
    subst h
    exact ⟨p, [], rfl, g, rfl⟩
  | u :: ts, ps, t, p, h, g => by
    obtain ⟨q, r, e, h1, h2⟩ := h
    subst e
    exact ⟨q, r ++ [p], rfl, h1, OfKs.snoc h2 g⟩
mutual
def Tm.ht : Tm → Nat
  | .nm _ => 0
  | .mk _ ts => Tm.hts ts
def Tm.hts : List Tm → Nat
  | [] => 0
  | t :: ts => max (t.ht + 1) (Tm.hts ts)
end
theorem Tm.hts_le {h : Nat} : ∀ {ts : List Tm}, (∀ t ∈ ts, t.ht + 1 ≤ h) → Tm.hts ts ≤ h
  | [], _ => by simp [Tm.hts]
  | t :: ts, g => by
    have := g t (by simp)
    have := Tm.hts_le (h := h) (ts := ts) fun t ht => g t (List.mem_cons_of_mem _ ht)
    simp [Tm.hts]
    omega
def cost : Nat → Nat
  | 0 => 1
  | f + 1 => 1 + 3 * cost f
theorem cost_pos : ∀ f, 1 ≤ cost f
  | 0 => Nat.le_refl _
  | f + 1 => by simp [cost]
theorem map_inj_str {xs ys : List Sg} (h : xs.map D.str = ys.map D.str) : xs = ys := by
  induction xs generalizing ys with
  | nil => cases ys with
    | nil => rfl
    | cons y ys => simp at h
  | cons x xs ih => cases ys with
    | nil => simp at h
    | cons y ys =>
      simp only [List.map_cons, List.cons.injEq, D.str.injEq] at h
      rw [h.1, ih h.2]
theorem take_get {S S' : St} {l : Nat} {o : O} (e : S'.take S.length = S) (h : S'[l]? = some o) (hl : l < S.length) : S[l]? = some o := by
  rw [← e, List.getElem?_take, if_pos hl]; exact h
section
variable {W : Nat}
/-- what open tells -/
structure OpenR (d : Dk) (ks : List Kd) (lk : Nat) (k : Sg) (far : Nat) (kn : List Sg) (B : Int) (S : St) (x : D) (S' : St) (t : Tm) (kn' : List Sg) : Prop where
  x : x = t.D
  of : OfK ks k t
  ht : t.ht ≤ far
  ord : Ord kn.length t.lvs kn'.length
  len : kn'.length ≤ kn.length + cost far
  kn : S'[lk]? = some (.lst (kn'.map .str))
  dk : DkAt d (B + cost far) S'
  fr : Frm (fun i => d.A i ∨ i = lk) S S'
theorem open_gc {d : Dk} {ks : List Kd} {lk : Nat} {k : Sg} {far : Nat} {kn kn' : List Sg} {B : Int} {S S' : St} {x : D} {t : Tm} (R : OpenR d ks lk k far kn B S x S' t kn') (h : DkAt d B S) (hl : lk < S.length) :
    (gc S x S').to fun x S' => ∃ t kn', OpenR d ks lk k far kn B S x S' t kn' :=
  gc_to ⟨t, kn', R⟩ fun e => ⟨t, kn', ⟨R.x, R.of, R.ht, R.ord, R.len, take_get e R.kn hl, h.le (by omega), Frm.refl⟩⟩
theorem call_open (ks : List Kd) (K : KOk ks) {d : Dk} {lk : Nat} (hlk : ¬ d.A lk) : ∀ (far : Nat) (k : Sg) (kn : List Sg) (B : Int) (S : St) (n : Nat), DkAt d B S → S[lk]? = some (.lst (kn.map .str)) → kn.length + cost far ≤ 900 → B + cost far ≤ 1000000 → far + 3 ≤ n →
    (call TT W n 14 [.loc d.l, KD ks, .str k, .int (far : Nat), .loc lk] S).to fun x S' => ∃ t kn', OpenR d ks lk k far kn B S x S' t kn' := by
  intro far
  induction far using Nat.strongRecOn with
  | ind far ihf =>
  intro k kn B S n h hk hkl hB hn
  obtain ⟨n, rfl⟩ : ∃ m, n = m + 2 := ⟨n - 2, by omega⟩
  have cp := cost_pos far
  show (runFn TT W (call TT W (n + 1)) f__law_open _ S).to _
  refine run_too rfl ?_
  unfold f__law_open
  obtain ⟨_, S1, e1, v, rfl, v0, v1, k1, fr1⟩ := call_next (W := W) h (by omega) n
  have hk1 := fr1.get hk hlk
  have ln : ∀ (kn : List Sg) (S : St), S[lk]? = some (.lst (kn.map .str)) → bltD .len [.loc lk] S = .ok (.int (kn.length : Nat)) S := fun kn S h => by simp [bltD, h]
  have hll : -(lim : Int) ≤ (kn.length : Nat) ∧ ((kn.length : Nat) : Int) ≤ lim := by unfold lim; omega
  simp [exSs, exS, evE, evEs, evL, evIt, evC, evO, asgT, asgTs, wipe, itemsOf, idx_tup, at0, at1, at2, okO, cmpD, asBool, lstAt, gc_self, okG, c_str, c_int, c_non, e_str, e_int, e_non, rngD, mkLst, e1, ln _ _ hk1, hll]
  refine lft_to ?_
  simp [exSs, exS, evE, evEs, evL, evIt, evC, evO, asgT, asgTs, wipe, itemsOf, idx_tup, at0, at1, at2, okO, cmpD, asBool, lstAt, gc_self, okG, c_str, c_int, c_non, e_str, e_int, e_non, rngD, mkLst]
  refine compD_to (F := fun k : Nat => D.int (k : Nat)) (fun l a S' => S' = S1 ∧ ∃ (pre : List Nat) (os : List Sg), List.range kn.length = pre ++ l ∧ a = os.map .str ∧ (∀ x ∈ os, ∃ i, i < kn.length ∧ x = num (i + 1)) ∧ os.length ≤ pre.length) ⟨rfl, [], [], rfl, rfl, by simp, by simp⟩ (fun _ _ _ _ => rfl) ?_ ?_
  · rintro i l a S' ⟨rfl, pre, os, t1, rfl, t2, t3⟩
    have hi : i < kn.length := by
      have : i ∈ List.range kn.length := by rw [t1]; simp
      simpa using this
    obtain ⟨x, hx, ex⟩ := atI_map (f := D.str) (xs := kn) (i := (i : Int)) (by omega) (by omega)
    have ix := idx_loc (i := (i : Int)) hk1
    simp only [ex, okO] at ix
    have hb : ((i : Int) + 1).natAbs < 1000000000000000000 := by omega
    have es : bltD .str [.int ((i : Int) + 1)] S' = .ok (.str (num (i + 1))) S' := by
      simp only [bltD, if_pos hb]
      rfl
    by_cases hxk : x = k
    · simp [exSs, exS, evE, evEs, evL, evIt, evC, evO, asgT, asgTs, wipe, itemsOf, idx_tup, at0, at1, at2, okO, cmpD, asBool, lstAt, gc_self, okG, c_str, c_int, c_non, e_str, e_int, e_non, rngD, mkLst, ix, hxk, b_add, es]
      exact ⟨pre ++ [i], by rw [t1]; simp, os ++ [num (i + 1)], by simp, fun y hy => by
        rcases List.mem_append.mp hy with hy | hy
        · exact t2 y hy
        · simp only [List.mem_singleton] at hy; exact ⟨i, hi, hy⟩, by simp; omega⟩
    · simp [exSs, exS, evE, evEs, evL, evIt, evC, evO, asgT, asgTs, wipe, itemsOf, idx_tup, at0, at1, at2, okO, cmpD, asBool, lstAt, gc_self, okG, c_str, c_int, c_non, e_str, e_int, e_non, rngD, mkLst, ix, hxk]
      exact ⟨pre ++ [i], by rw [t1]; simp, os, rfl, t2, by simp; omega⟩
  rintro a S' ⟨rfl, pre, os, t1, rfl, t2, t3⟩
  have hos : os.length ≤ lim := by
    have := congrArg List.length t1
    simp at this
    unfold lim
    omega
  have hk2 : (S' ++ [O.lst (os.map .str)])[lk]? = some (.lst (kn.map .str)) := get_app hk1
  have ho2 : (S' ++ [O.lst (os.map .str)])[S'.length]? = some (.lst (os.map .str)) := by simp
  have lkl := lt_of_get hk
  have hcmp : cmpLD true (os.map D.str) [] (S' ++ [O.lst (os.map .str)]) = .ok (.bl (!os.isEmpty)) (S' ++ [O.lst (os.map .str)]) := by
    cases os <;> simp [cmpLD]
  simp [exSs, exS, evE, evEs, evL, evIt, evC, evO, asgT, asgTs, wipe, itemsOf, idx_tup, at0, at1, at2, okO, cmpD, asBool, lstAt, gc_self, okG, c_str, c_int, c_non, e_str, e_int, e_non, rngD, mkLst, hos]
  have fr2 : Frm d.A S (S' ++ [O.lst (os.map .str)]) := fr1.trans Frm.app
  have k2 : DkAt d (B + 1) (S' ++ [O.lst (os.map .str)]) := k1.app
  generalize hS2 : S' ++ [O.lst (os.map .str)] = S2 at *
  generalize hlo : S'.length = lo at *
  have fm : ∀ {S S' : St}, Frm d.A S S' → Frm (fun i => d.A i ∨ i = lk) S S' := fun h => h.mono fun _ _ h => .inl h
  by_cases hc : v % 3 = 0 ∨ (far = 0 ∧ v % 2 = 0)
  · have kl : (kn.map D.str).length < lim := by simp; unfold lim; omega
    have kb : ((kn.length : Int) + 1).natAbs < 1000000000000000000 := by omega
    have es : ∀ S, bltD .str [.int ((kn.length : Int) + 1)] S = .ok (.str (num (kn.length + 1))) S := fun S => by
      simp only [bltD, if_pos kb]
      rfl
    have ln2 : ∀ S : St, S[lk]? = some (.lst (kn.map .str ++ [.str k])) → bltD .len [.loc lk] S = .ok (.int ((kn.length : Int) + 1)) S := fun S h => by simp [bltD, h]
    have hk3 : (S2.set lk (O.lst (kn.map .str ++ [.str k])))[lk]? = some (.lst (kn.map .str ++ [.str k])) := get_set hk2
    have newR : OpenR d ks lk k far kn B S (.tup [.str [110, 97, 109, 101], .str (num (kn.length + 1))]) (S2.set lk (O.lst (kn.map .str ++ [.str k]))) (.nm (num (kn.length + 1))) (kn ++ [k]) :=
      ⟨rfl, trivial, Nat.zero_le _, by simpa [Tm.lvs] using Ord.new (Ord.nil _), by simp; omega, by rw [hk3]; simp, (k2.set hlk).le (by omega), (fm fr2).trans (Frm.set (.inr rfl))⟩
    have lno : bltD .len [.loc lo] S2 = .ok (.int (os.length : Nat)) S2 := by simp [bltD, ho2]
    by_cases ho : os = []
    · have hcm : cmpLD true (os.map D.str) [] S2 = .ok (.bl false) S2 := by rw [hcmp, ho]; rfl
      have oldR : True := trivial
      by_cases h3 : v % 3 = 0
      · simp [exSs, exS, evE, evEs, evL, evIt, evC, evO, asgT, asgTs, wipe, itemsOf, idx_tup, at0, at1, at2, okO, cmpD, asBool, lstAt, gc_self, okG, c_str, c_int, c_non, e_str, e_int, e_non, rngD, mkLst, b_mod, b_div, h3, ho2, Gd.ok, hcm, ok_app hk2, m_append hk2 kl, ln2 _ hk3, es, finD]
        exact open_gc newR h lkl
      · obtain ⟨hf, h2⟩ := hc.resolve_left h3
        simp [exSs, exS, evE, evEs, evL, evIt, evC, evO, asgT, asgTs, wipe, itemsOf, idx_tup, at0, at1, at2, okO, cmpD, asBool, lstAt, gc_self, okG, c_str, c_int, c_non, e_str, e_int, e_non, rngD, mkLst, b_mod, b_div, h3, hf, h2, ho2, Gd.ok, hcm, ok_app hk2, m_append hk2 kl, ln2 _ hk3, es, finD]
        subst hf
        exact open_gc newR h lkl
    · have hcm : cmpLD true (os.map D.str) [] S2 = .ok (.bl true) S2 := by
        rw [hcmp]
        cases os with
        | nil => exact absurd rfl ho
        | cons _ _ => rfl
      have hop : 0 < os.length := List.length_pos_iff.mpr ho
      have mo : ∀ (i : Int) S, binD .mod (.int i) (.int (os.length : Nat)) S = .ok (.int (i % (os.length : Nat))) S := fun i S => b_mod (by omega) (by unfold lim at hos; omega)
      obtain ⟨y, hy, ey⟩ := atI_map (f := D.str) (xs := os) (i := v / 18 % (os.length : Nat)) (Int.emod_nonneg _ (by omega)) (Int.emod_lt_of_pos _ (by omega))
      have iy := idx_loc (i := v / 18 % (os.length : Nat)) ho2
      simp only [ey, okO] at iy
      obtain ⟨i, hi, rfl⟩ := t2 y hy
      have oldR : OpenR d ks lk k far kn B S (.tup [.str [110, 97, 109, 101], .str (num (i + 1))]) S2 (.nm (num (i + 1))) kn :=
        ⟨rfl, trivial, Nat.zero_le _, by simpa [Tm.lvs] using Ord.old hi (Ord.nil _), by omega, hk2, k2.le (by omega), fm fr2⟩
      by_cases h6 : 0 < v / 6 % 3
      · by_cases h3 : v % 3 = 0
        · simp [exSs, exS, evE, evEs, evL, evIt, evC, evO, asgT, asgTs, wipe, itemsOf, idx_tup, at0, at1, at2, okO, cmpD, asBool, lstAt, gc_self, okG, c_str, c_int, c_non, e_str, e_int, e_non, rngD, mkLst, b_mod, b_div, h3, ho2, Gd.ok, hcm, h6, lno, mo, iy, finD]
          exact open_gc oldR h lkl
        · obtain ⟨hf, h2⟩ := hc.resolve_left h3
          simp [exSs, exS, evE, evEs, evL, evIt, evC, evO, asgT, asgTs, wipe, itemsOf, idx_tup, at0, at1, at2, okO, cmpD, asBool, lstAt, gc_self, okG, c_str, c_int, c_non, e_str, e_int, e_non, rngD, mkLst, b_mod, b_div, h3, hf, h2, ho2, Gd.ok, hcm, h6, lno, mo, iy, finD]
          subst hf
          exact open_gc oldR h lkl
      · by_cases h3 : v % 3 = 0
        · simp [exSs, exS, evE, evEs, evL, evIt, evC, evO, asgT, asgTs, wipe, itemsOf, idx_tup, at0, at1, at2, okO, cmpD, asBool, lstAt, gc_self, okG, c_str, c_int, c_non, e_str, e_int, e_non, rngD, mkLst, b_mod, b_div, h3, ho2, Gd.ok, hcm, h6, ok_app hk2, m_append hk2 kl, ln2 _ hk3, es, finD]
          exact open_gc newR h lkl
        · obtain ⟨hf, h2⟩ := hc.resolve_left h3
          simp [exSs, exS, evE, evEs, evL, evIt, evC, evO, asgT, asgTs, wipe, itemsOf, idx_tup, at0, at1, at2, okO, cmpD, asBool, lstAt, gc_self, okG, c_str, c_int, c_non, e_str, e_int, e_non, rngD, mkLst, b_mod, b_div, h3, hf, h2, ho2, Gd.ok, hcm, h6, ok_app hk2, m_append hk2 kl, ln2 _ hk3, es, finD]
          subst hf
          exact open_gc newR h lkl
  · have h3 : ¬ v % 3 = 0 := fun h => hc (.inl h)
    have ms := makers_ok K k
    have cm := fun S => call_makers (W := W) ks k n S
    have lm : ∀ (l : List D) S, bltD .len [.tup l] S = .ok (.int (l.length : Nat)) S := fun _ _ => rfl
    obtain ⟨m, hm, em⟩ := atI_map (f := mkD) (xs := makersOf ks k) (i := v / 6 % ((makersOf ks k).length : Nat)) (Int.emod_nonneg _ (by omega)) (Int.emod_lt_of_pos _ (by omega))
    have hm3 := ms.1.len
    have mm : ∀ (i : Int) S, binD .mod (.int i) (.int ((makersOf ks k).length : Nat)) S = .ok (.int (i % ((makersOf ks k).length : Nat))) S := fun i S => b_mod (by omega) (by omega)
    by_cases hf : far = 0
    · have h2 : ¬ v % 2 = 0 := fun h => hc (.inr ⟨hf, h⟩)
      subst hf
      obtain ⟨m0, r, e0⟩ : ∃ m0 r, makersOf ks k = m0 :: r := by
        cases e : makersOf ks k with
        | nil => rw [e] at ms; exact absurd ms.2 (by simp)
        | cons a r => exact ⟨a, r, rfl⟩
      have hp0 : m0.2 = [] := ms.1.fst m0 (by rw [e0]; rfl)
      have e00 : atI ((makersOf ks k).map mkD) 0 = some (mkD m0) := by rw [e0]; exact at0
      simp [exSs, exS, evE, evEs, evL, evIt, evC, evO, asgT, asgTs, wipe, itemsOf, idx_tup, at0, at1, at2, okO, cmpD, asBool, lstAt, gc_self, okG, c_str, c_int, c_non, e_str, e_int, e_non, rngD, mkLst, b_mod, b_div, h3, h2, cm, lm, mm, em, mkD, e00, hp0, compD, lbD, finD]
      refine open_gc (t := .mk m0.1 []) (kn' := kn) ⟨rfl, ⟨[], by rw [e0, ← hp0]; exact List.mem_cons_self, rfl⟩, Nat.le_refl _, Ord.nil _, by omega, hk2, k2.le (by omega), fm fr2⟩ h lkl
    · obtain ⟨f, rfl⟩ : ∃ f, far = f + 1 := ⟨far - 1, by omega⟩
      have hmp := ms.1.par m hm
      have cf : cost (f + 1) = 1 + 3 * cost f := rfl
      have mx : ∀ S, bltD .max2 [.int 0, .int (f : Nat)] S = .ok (.int (f : Nat)) S := fun S => by
        simp only [bltD]
        split
        · rfl
        · have : f = 0 := by omega
          subst this; rfl
      have sb : ∀ S, binD .sub (.int ((f : Int) + 1)) (.int 1) S = .ok (.int (f : Nat)) S := fun S => by
        rw [b_sub]
        congr 2
        omega
      simp [exSs, exS, evE, evEs, evL, evIt, evC, evO, asgT, asgTs, wipe, itemsOf, idx_tup, at0, at1, at2, okO, cmpD, asBool, lstAt, gc_self, okG, c_str, c_int, c_non, e_str, e_int, e_non, rngD, mkLst, b_mod, b_div, h3, cm, lm, mm, em, mkD, sb, mx]
      have hf' : ¬ ((f : Int) + 1 = 0) := by omega
      simp [exSs, exS, evE, evEs, evL, evIt, evC, evO, asgT, asgTs, wipe, itemsOf, idx_tup, at0, at1, at2, okO, cmpD, asBool, lstAt, gc_self, okG, c_str, c_int, c_non, e_str, e_int, e_non, rngD, mkLst, hf', sb, mx]
      refine lft_to ?_
      simp [exSs, exS, evE, evEs, evL, evIt, evC, evO, asgT, asgTs, wipe, itemsOf, idx_tup, at0, at1, at2, okO, cmpD, asBool, lstAt, gc_self, okG, c_str, c_int, c_non, e_str, e_int, e_non, rngD, mkLst, lbD]
      refine compD_to (F := D.str) (fun l a S' => ∃ (pre : List Sg) (ts : List Tm) (kn1 : List Sg), m.2 = pre ++ l ∧ ts.length = pre.length ∧ a = ts.map Tm.D ∧ OfKs ks pre ts ∧ (∀ t ∈ ts, t.ht + 1 ≤ f + 1) ∧ Ord kn.length (ts.flatMap Tm.lvs) kn1.length ∧ kn1.length ≤ kn.length + cost f * ts.length ∧
        S'[lk]? = some (.lst (kn1.map .str)) ∧ DkAt d (B + 1 + (cost f * ts.length : Nat)) S' ∧ Frm (fun i => d.A i ∨ i = lk) S S') ⟨[], [], kn, rfl, rfl, rfl, rfl, by simp, Ord.nil _, by simp, hk2, k2.le (by simp), fm fr2⟩ (fun _ _ _ _ => rfl) ?_ ?_
      · rintro p l a S3 ⟨pre, ts, kn1, u1, u2, rfl, u4, u5, u6, u7, u8, u9, u10⟩
        have hpre : pre.length < 3 := by have := congrArg List.length u1; simp at this; omega
        have hcc : cost f * ts.length ≤ cost f * 2 := Nat.mul_le_mul_left _ (by omega)
        obtain ⟨_, S4, e4, t, kn2, R⟩ := ihf f (by omega) p kn1 (B + 1 + (cost f * ts.length : Nat)) S3 (n + 1) u9 u8 (by omega) (by omega) (by omega)
        have e4 := R.x ▸ e4
        simp [exSs, exS, evE, evEs, evL, evIt, evC, evO, asgT, asgTs, wipe, itemsOf, idx_tup, at0, at1, at2, okO, cmpD, asBool, lstAt, gc_self, okG, c_str, c_int, c_non, e_str, e_int, e_non, rngD, mkLst, sb, mx, e4]
        have hcs : cost f * (ts ++ [t]).length = cost f * ts.length + cost f := by rw [List.length_append, List.length_singleton, Nat.mul_add, Nat.mul_one]
        have r7 := R.len
        exact ⟨pre ++ [p], by rw [u1]; simp, ts ++ [t], by simp [u2], by simp, OfKs.snoc u4 R.of, fun x hx => by
          rcases List.mem_append.mp hx with hx | hx
          · have := u5 x hx; omega
          · simp only [List.mem_singleton] at hx; subst hx; have := R.ht; omega, kn2, by rw [List.flatMap_append]; simpa using u6.app R.ord, by rw [hcs]; omega, R.kn, R.dk.le (by rw [← Int.natCast_mul, hcs]; omega), u10.trans R.fr⟩
      · rintro a S3 ⟨pre, ts, kn1, u1, u2, rfl, u4, u5, u6, u7, u8, u9, u10⟩
        simp at u1
        subst u1
        have hcc : cost f * ts.length ≤ cost f * 3 := Nat.mul_le_mul_left _ (by omega)
        simp [exSs, exS, evE, evEs, evL, evIt, evC, evO, asgT, asgTs, wipe, itemsOf, idx_tup, at0, at1, at2, okO, cmpD, asBool, lstAt, gc_self, okG, c_str, c_int, c_non, e_str, e_int, e_non, rngD, mkLst, finD]
        refine open_gc (t := .mk m.1 ts) (kn' := kn1) ⟨by simp [Tm.D, sMade, Tm.Ds_map], ⟨m.2, hm, u4⟩, Tm.hts_le u5, by simpa [Tm.lvs, Tm.lvss_map] using u6, by omega, u8, u9.le (by omega), u10⟩ h lkl
end
end Hd
end
section
set_option linter.all false
set_option maxRecDepth 10000
namespace Hd
open ML
def FK (ks : List Kd) (h : Nat) : Ns → Fs → Prop
  | [], fs => fs = []
  | n :: ns, fs => ∃ t r, fs = (n.1, t) :: r ∧ OfK ks n.2 t ∧ t.ht ≤ h ∧ FK ks h ns r
theorem FK.snoc {ks : List Kd} {h : Nat} {n : Sg × Sg} {t : Tm} : ∀ {ns : Ns} {fs : Fs}, FK ks h ns fs → OfK ks n.2 t → t.ht ≤ h → FK ks h (ns ++ [n]) (fs ++ [(n.1, t)])
  | [], fs, a, b, c => by
    simp only [FK] at a
    subst a
    exact ⟨t, [], rfl, b, c, rfl⟩
  | m :: ns, fs, a, b, c => by
    obtain ⟨u, r, e, h1, h2, h3⟩ := a
    subst e
    exact ⟨u, r ++ [(n.1, t)], rfl, h1, h2, FK.snoc h3 b c⟩
theorem cost_mono {f g : Nat} (h : f ≤ g) : cost f ≤ cost g := by
  induction h with
  | refl => exact Nat.le_refl _
  | step _ ih => simp only [cost]; omega
section
variable {W : Nat}
theorem call_open_fills {ks : List Kd} (K : KOk ks) {d : Dk} {lk : Nat} (hlk : ¬ d.A lk) (ns : Ns) (hn1 : 0 < ns.length) (hn4 : ns.length ≤ 4) (kn : List Sg) (B : Int) (S : St) (n : Nat) (h : DkAt d B S) (hk : S[lk]? = some (.lst (kn.map .str))) (hkl : kn.length ≤ 100) (hB : B + 100 ≤ 1000000) (hn : 10 ≤ n) :
    (call TT W n 26 [.loc d.l, KD ks, NsD ns, .loc lk] S).to fun x S' => ∃ (fs : Fs) (kn' : List Sg), x = Fs.D fs ∧ FK ks (2 - ns.length / 3) ns fs ∧ Ord kn.length (fs.flatMap fun p => p.2.lvs) kn'.length ∧ kn'.length ≤ kn.length + 60 ∧ S'[lk]? = some (.lst (kn'.map .str)) ∧ DkAt d (B + 60) S' ∧ Frm (fun i => d.A i ∨ i = lk) S S' := by
  obtain ⟨n, rfl⟩ : ∃ m, n = m + 2 := ⟨n - 2, by omega⟩
  have lkl := lt_of_get hk
  show (runFn TT W (call TT W (n + 1)) f__law_open_fills _ S).to _
  refine run_too rfl ?_
  unfold f__law_open_fills NsD
  have lm : ∀ (l : List D) S, bltD .len [.tup l] S = .ok (.int (l.length : Nat)) S := fun _ _ => rfl
  simp [exSs, exS, evE, evEs, evL, evIt, evC, evO, asgT, asgTs, wipe, itemsOf, idx_tup, at0, at1, at2, okO, cmpD, asBool, lstAt, gc_self, okG, c_str, c_int, c_non, e_str, e_int, e_non, rngD, mkLst, lm, b_div, b_sub]
  have hff : 0 < 3 - (ns.length : Int) / 3 ∧ 3 - (ns.length : Int) / 3 ≤ 3 ∧ (3 - (ns.length : Int) / 3) = ((2 - ns.length / 3 : Nat) : Int) + 1 := by omega
  generalize 3 - (ns.length : Int) / 3 = ff at hff
  obtain ⟨f0, f1, f2⟩ := hff
  generalize hh : 2 - ns.length / 3 = hgt at f2
  have hg2 : hgt ≤ 2 := by omega
  have bm : ∀ (i : Int) S, binD .mod (.int i) (.int ff) S = .ok (.int (i % ff)) S := fun i S => b_mod f0 (by omega)
  have c2 : cost 2 = 13 := rfl
  refine lft_to ?_
  simp [exSs, exS, evE, evEs, evL, evIt, evC, evO, asgT, asgTs, wipe, itemsOf, idx_tup, at0, at1, at2, okO, cmpD, asBool, lstAt, gc_self, okG, c_str, c_int, c_non, e_str, e_int, e_non, rngD, mkLst]
  refine compD_to (F := nsD) (fun l a S' => ∃ (pre : Ns) (fs : Fs) (kn' : List Sg), ns = pre ++ l ∧ fs.length = pre.length ∧ a = fs.map flD ∧ FK ks hgt pre fs ∧ Ord kn.length (fs.flatMap fun p => p.2.lvs) kn'.length ∧ kn'.length ≤ kn.length + 13 * pre.length ∧ S'[lk]? = some (.lst (kn'.map .str)) ∧ DkAt d (B + 14 * pre.length) S' ∧ Frm (fun i => d.A i ∨ i = lk) S S')
    ⟨[], [], kn, rfl, rfl, rfl, rfl, Ord.nil _, by simp, hk, h.le (by simp), Frm.refl⟩ (fun _ _ _ _ => rfl) ?_ ?_
  · rintro nk l a S' ⟨pre, fs, kn', t1, t2, rfl, t4, t5, t6, t7, t8, t9⟩
    have hpl : pre.length < 4 := by have := congrArg List.length t1; simp at this; omega
    obtain ⟨_, S1, e1, v, rfl, v0, v1, k1, fr1⟩ := call_next (W := W) t8 (by omega) n
    have hk1 := fr1.get t7 hlk
    have hv0 : 0 ≤ v % ff := Int.emod_nonneg _ (by omega)
    have hv1 : v % ff < ff := Int.emod_lt_of_pos _ f0
    obtain ⟨far, hfar⟩ : ∃ far : Nat, v % ff = (far : Int) := ⟨(v % ff).toNat, by omega⟩
    have hfl : far ≤ hgt := by omega
    have hcm : cost far ≤ 13 := by rw [← c2]; exact cost_mono (by omega)
    obtain ⟨_, S2, e2, t, kn2, R⟩ := call_open (W := W) ks K hlk far nk.2 kn' (B + 14 * pre.length + 1) S1 (n + 1) k1 hk1 (by omega) (by omega) (by omega)
    have e2 := R.x ▸ e2
    have r7 := R.len
    simp [exSs, exS, evE, evEs, evL, evIt, evC, evO, asgT, asgTs, wipe, itemsOf, idx_tup, at0, at1, at2, okO, cmpD, asBool, lstAt, gc_self, okG, c_str, c_int, c_non, e_str, e_int, e_non, rngD, mkLst, nsD, e1, bm, hfar, e2]
    refine ⟨pre ++ [nk], by rw [t1]; simp, fs ++ [(nk.1, t)], by simp [t2], by simp [flD], t4.snoc R.of (Nat.le_trans R.ht hfl), kn2, by rw [List.flatMap_append]; simpa using t5.app R.ord, by simp; omega, R.kn, R.dk.le (by simp; omega), (t9.trans (fr1.mono fun _ _ h => .inl h)).trans R.fr⟩
  · rintro a S' ⟨pre, fs, kn', t1, t2, rfl, t4, t5, t6, t7, t8, t9⟩
    simp at t1
    subst t1
    simp [exSs, exS, evE, evEs, evL, evIt, evC, evO, asgT, asgTs, wipe, itemsOf, idx_tup, at0, at1, at2, okO, cmpD, asBool, lstAt, gc_self, okG, c_str, c_int, c_non, e_str, e_int, e_non, rngD, mkLst, lbD, finD]
    refine gc_to ⟨fs, rfl, t4, kn', t5, by omega, t7, t8.le (by omega), t9⟩ fun e => ⟨fs, rfl, t4, kn', t5, by omega, take_get e t7 lkl, h.le (by omega), Frm.refl⟩
end
end Hd
end
section
set_option linter.all false
set_option maxRecDepth 10000
namespace Hd
open ML
/-- names kept by others' names -/
def byR (bs : List (Sg × Nat)) : List (D × D) := bs.map fun p => (.str p.1, .str (num (p.2 + 1)))
theorem look_by {x : Sg} : ∀ bs : List (Sg × Nat), lookD (byR bs) (.str x) = (bs.lookup x).map fun i => .str (num (i + 1))
  | [] => rfl
  | (y, i) :: bs => by
    have ih := look_by (x := x) bs
    unfold lookD byR at ih ⊢
    by_cases h : y = x
    · subst h; simp [List.lookup]
    · have h2 : (x == y) = false := by simpa using fun e => h (Eq.symm e)
      rw [List.map_cons, List.find?_cons_of_neg (by simpa using h), ih]
      simp [List.lookup, h2]
theorem put_by {x : Sg} {i : Nat} : ∀ {bs : List (Sg × Nat)}, bs.lookup x = none → putD (byR bs) (.str x) (.str (num (i + 1))) = byR (bs ++ [(x, i)])
  | [], _ => rfl
  | (y, j) :: bs, h => by
    have hk : y ≠ x := fun e => by subst e; simp [List.lookup] at h
    have h2 : (x == y) = false := by simpa using fun e => hk (Eq.symm e)
    simp only [List.lookup, h2] at h
    have ih := put_by (x := x) (i := i) h
    simp [byR, putD, hk] at ih ⊢
    exact ih
theorem lookup_mem {x : Sg} {i : Nat} : ∀ {bs : List (Sg × Nat)}, bs.lookup x = some i → (x, i) ∈ bs
  | [], h => nomatch h
  | (y, j) :: bs, h => by
    by_cases e : x = y
    · subst e; simp [List.lookup] at h; subst h; simp
    · have h2 : (x == y) = false := by simpa using e
      simp only [List.lookup, h2] at h
      exact List.mem_cons_of_mem _ (lookup_mem h)
mutual
def vc : Tm → Nat
  | .nm _ => 5
  | .mk _ ts => 5 + vcs ts
def vcs : List Tm → Nat
  | [] => 0
  | t :: ts => vc t + vcs ts
end
theorem vcs_app : ∀ (a b : List Tm), vcs (a ++ b) = vcs a + vcs b
  | [], b => by simp [vcs]
  | t :: a, b => by simp [vcs, vcs_app a b]; omega
def vb : Nat → Nat
  | 0 => 5
  | h + 1 => 5 + 3 * vb h
theorem rows_of {ms : List Mk} {w : Sg} {ps : List Sg} : (w, ps) ∈ ms → (∀ qs, (w, qs) ∈ ms → qs = ps) → ∃ r, (ms.flatMap fun m => if m.1 = w then [D.tup (m.2.map .str)] else []) = .tup (ps.map .str) :: r := by
  induction ms with
  | nil => intro h; cases h
  | cons a r ih =>
    intro h u
    by_cases e : a.1 = w
    · have : a.2 = ps := u a.2 (by rw [← e]; exact List.mem_cons_self)
      simp only [List.flatMap_cons, e, if_true, this]
      exact ⟨_, rfl⟩
    · simp only [List.flatMap_cons, e, if_false, List.nil_append]
      rcases List.mem_cons.mp h with h | h
      · exact absurd (by rw [← h]) e
      · exact ih h fun qs hq => u qs (List.mem_cons_of_mem _ hq)
structure VarR (d : Dk) (ks : List Kd) (lo lb : Nat) (k : Sg) (t0 : Tm) (kn : List Sg) (B : Int) (S : St) (x : D) (S' : St) (t : Tm) (kn' : List Sg) (bs' : List (Sg × Nat)) : Prop where
  x : x = t.D
  of : OfK ks k t
  ht : t.ht ≤ t0.ht + 1
  ord : Ord kn.length t.lvs kn'.length
  len : kn'.length ≤ kn.length + vc t0
  kn : S'[lo]? = some (.lst (kn'.map .str))
  by_ : S'[lb]? = some (.dct (byR bs'))
  bin : ∀ p ∈ bs', p.2 < kn'.length
  bln : bs'.length ≤ kn'.length
  dk : DkAt d (B + vc t0) S'
  fr : Frm (fun i => d.A i ∨ i = lo ∨ i = lb) S S'
theorem Tm.ht_mem {ts : List Tm} {t : Tm} (h : t ∈ ts) : t.ht + 1 ≤ Tm.hts ts := by
  induction ts with
  | nil => cases h
  | cons a r ih =>
    rcases List.mem_cons.mp h with e | e
    · subst e; simp [Tm.hts]; omega
    · have := ih e; simp [Tm.hts]; omega
theorem OfKs.zip {ks : List Kd} : ∀ {ts : List Tm} {ps : List Sg}, OfKs ks ps ts → ts.length = ps.length ∧ ∀ q ∈ ts.zip ps, OfK ks q.2 q.1
  | [], ps, h => by simp only [OfKs] at h; subst h; simp
  | t :: ts, ps, h => by
    obtain ⟨p, r, e, h1, h2⟩ := h
    subst e
    obtain ⟨a, b⟩ := OfKs.zip h2
    refine ⟨by simp [a], fun q hq => ?_⟩
    simp only [List.zip_cons_cons, List.mem_cons] at hq
    rcases hq with rfl | hq
    · exact h1
    · exact b q hq
section
variable {W : Nat}
theorem var_gc {d : Dk} {ks : List Kd} {lo lb : Nat} {k : Sg} {t0 : Tm} {kn kn' : List Sg} {bs' : List (Sg × Nat)} {B : Int} {S S' : St} {x : D} {t : Tm} (R : VarR d ks lo lb k t0 kn B S x S' t kn' bs') (h : DkAt d B S) (hl : lo < S.length) (hl2 : lb < S.length) :
    (gc S x S').to fun x S' => ∃ t kn' bs', VarR d ks lo lb k t0 kn B S x S' t kn' bs' :=
  gc_to ⟨t, kn', bs', R⟩ fun e => ⟨t, kn', bs', ⟨R.x, R.of, R.ht, R.ord, R.len, take_get e R.kn hl, take_get e R.by_ hl2, R.bin, R.bln, h.le (by omega), Frm.refl⟩⟩
theorem call_varied (ks : List Kd) (K : KOk ks) {d : Dk} {lo lb : Nat} (hlo : ¬ d.A lo) (hlb : ¬ d.A lb) (hne : lo ≠ lb) : ∀ (t0 : Tm) (k : Sg) (kn : List Sg) (bs : List (Sg × Nat)) (B : Int) (S : St) (n : Nat), OfK ks k t0 → DkAt d B S → S[lo]? = some (.lst (kn.map .str)) → S[lb]? = some (.dct (byR bs)) → (∀ p ∈ bs, p.2 < kn.length) → bs.length ≤ kn.length →
    kn.length + vc t0 ≤ 800 → B + vc t0 ≤ 900000 → t0.dep + 8 ≤ n →
    (call TT W n 23 [.loc d.l, KD ks, t0.D, .str k, .loc lo, .loc lb] S).to fun x S' => ∃ t kn' bs', VarR d ks lo lb k t0 kn B S x S' t kn' bs' := by
  intro t0
  induction t0 using Tm.ind with
  | hn x =>
    intro k kn bs B S n hof h hk hb hbi hbl hkl hB hn
    obtain ⟨n, rfl⟩ : ∃ m, n = m + 2 := ⟨n - 2, by omega⟩
    have hv : vc (.nm x) = 5 := rfl
    rw [hv] at hkl hB
    have lol := lt_of_get hk
    have lbl := lt_of_get hb
    have c1 : cost 1 = 4 := rfl
    show (runFn TT W (call TT W (n + 1)) f__law_varied _ S).to _
    refine run_too rfl ?_
    unfold f__law_varied
    obtain ⟨_, S1, e1, v, rfl, v0, v1, k1, fr1⟩ := call_next (W := W) h (by omega) n
    have hk1 := fr1.get hk hlo
    have hb1 := fr1.get hb hlb
    have fm : ∀ {S S' : St}, Frm d.A S S' → Frm (fun i => d.A i ∨ i = lo ∨ i = lb) S S' := fun h => h.mono fun _ _ h => .inl h
    by_cases h8 : v % 8 = 0
    · obtain ⟨_, S2, e2, t, kn2, R⟩ := call_open (W := W) ks K hlo 1 k kn (B + 1) S1 (n + 1) k1 hk1 (by omega) (by omega) (by omega)
      have r7 := R.len
      rw [R.x] at e2
      simp only [Int.natCast_one] at e2
      simp [exSs, exS, evE, evEs, evL, evIt, evC, evO, asgT, asgTs, wipe, itemsOf, idx_tup, at0, at1, at2, okO, cmpD, asBool, lstAt, gc_self, okG, c_str, c_int, c_non, e_str, e_int, e_non, rngD, mkLst, e1, b_mod, h8, e2, finD]
      refine var_gc (kn' := kn2) (bs' := bs) ⟨rfl, R.of, R.ht, R.ord, by rw [hv]; omega, R.kn, R.fr.get hb1 (fun z => z.elim hlb fun e => hne e.symm), fun p hp => Nat.lt_of_lt_of_le (hbi p hp) R.ord.le, Nat.le_trans hbl R.ord.le, R.dk.le (by rw [hv]; omega), (fm fr1).trans (R.fr.mono fun i _ h => h.imp id .inl)⟩ h lol lbl
    · have inb : ∀ S : St, S[lb]? = some (.dct (byR bs)) → inD (.str x) (.loc lb) S = .ok ((bs.lookup x).isSome) S := fun S h => by
        simp [inD, h, keyOk, look_by]
      cases hx : bs.lookup x with
      | some i =>
        have hi := hbi _ (lookup_mem hx)
        have ix : idxD (.loc lb) (.str x) S1 = .ok (.str (num (i + 1))) S1 := by simp [idxD, hb1, keyOk, look_by, hx, okO]
        simp [exSs, exS, evE, evEs, evL, evIt, evC, evO, asgT, asgTs, wipe, itemsOf, idx_tup, at0, at1, at2, okO, cmpD, asBool, lstAt, gc_self, okG, c_str, c_int, c_non, e_str, e_int, e_non, rngD, mkLst, e1, b_mod, h8, i_nm0, i_nm1, sName, inb _ hb1, hx, ix, finD]
        refine var_gc (t := .nm (num (i + 1))) (kn' := kn) (bs' := bs) ⟨rfl, trivial, Nat.zero_le _, by simpa [Tm.lvs] using Ord.old hi (Ord.nil _), by omega, hk1, hb1, hbi, hbl, k1.le (by rw [hv]; omega), fm fr1⟩ h lol lbl
      | none =>
        have kl : (kn.map D.str).length < lim := by simp; unfold lim; omega
        have kb : ((kn.length : Int) + 1).natAbs < 1000000000000000000 := by omega
        have es : ∀ S, bltD .str [.int ((kn.length : Int) + 1)] S = .ok (.str (num (kn.length + 1))) S := fun S => by
          simp only [bltD, if_pos kb]
          rfl
        have ln2 : ∀ S : St, S[lo]? = some (.lst (kn.map .str ++ [.str k])) → bltD .len [.loc lo] S = .ok (.int ((kn.length : Int) + 1)) S := fun S h => by simp [bltD, h]
        have g1 : (S1.set lo (O.lst (kn.map .str ++ [.str k])))[lo]? = some (.lst (kn.map .str ++ [.str k])) := get_set hk1
        have g2 : (S1.set lo (O.lst (kn.map .str ++ [.str k])))[lb]? = some (.dct (byR bs)) := by rw [get_set_ne hne]; exact hb1
        have sx : setIx (.loc lb) (.str x) (.str (num (kn.length + 1))) (S1.set lo (O.lst (kn.map .str ++ [.str k]))) = .ok () ((S1.set lo (O.lst (kn.map .str ++ [.str k]))).set lb (.dct (byR (bs ++ [(x, kn.length)])))) := by
          have : (byR bs).length < lim := by simp [byR]; unfold lim; omega
          simp only [setIx, g2, keyOk, this, put_by hx]
          simp
        have g3 : ((S1.set lo (O.lst (kn.map .str ++ [.str k]))).set lb (O.dct (byR (bs ++ [(x, kn.length)]))))[lb]? = some (.dct (byR (bs ++ [(x, kn.length)]))) := get_set g2
        have lk2 : (bs ++ [(x, kn.length)]).lookup x = some kn.length := by rw [List.lookup_append, hx]; simp [List.lookup]
        have ix : idxD (.loc lb) (.str x) ((S1.set lo (O.lst (kn.map .str ++ [.str k]))).set lb (O.dct (byR (bs ++ [(x, kn.length)])))) = .ok (.str (num (kn.length + 1))) ((S1.set lo (O.lst (kn.map .str ++ [.str k]))).set lb (O.dct (byR (bs ++ [(x, kn.length)])))) := by
          simp only [idxD, g3, keyOk, look_by, lk2]
          simp [okO]
        simp [exSs, exS, evE, evEs, evL, evIt, evC, evO, asgT, asgTs, wipe, itemsOf, idx_tup, at0, at1, at2, okO, cmpD, asBool, lstAt, gc_self, okG, c_str, c_int, c_non, e_str, e_int, e_non, rngD, mkLst, e1, b_mod, h8, i_nm0, i_nm1, sName, inb _ hb1, hx, ok_app hk1, m_append hk1 kl, ln2 _ g1, es, sx, ix, finD]
        refine var_gc (t := .nm (num (kn.length + 1))) (kn' := kn ++ [k]) (bs' := bs ++ [(x, kn.length)]) ⟨rfl, trivial, Nat.zero_le _, by simpa [Tm.lvs] using Ord.new (Ord.nil _), by rw [hv]; simp, by rw [get_set_ne hne.symm, g1]; simp, g3, fun p hp => ?_, by simp; omega, ((k1.set hlo).set hlb).le (by rw [hv]; omega), ((fm fr1).trans (Frm.set (.inr (.inl rfl)))).trans (Frm.set (.inr (.inr rfl)))⟩ h lol lbl
        rcases List.mem_append.mp hp with hp | hp
        · have := hbi p hp; simp; omega
        · simp only [List.mem_singleton] at hp; subst hp; simp
  | hm w ts ih =>
    intro k kn bs B S n hof h hk hb hbi hbl hkl hB hn
    obtain ⟨n, rfl⟩ : ∃ m, n = m + 2 := ⟨n - 2, by omega⟩
    have hv : vc (.mk w ts) = 5 + vcs ts := rfl
    rw [hv] at hkl hB
    have lol := lt_of_get hk
    have lbl := lt_of_get hb
    have c1 : cost 1 = 4 := rfl
    show (runFn TT W (call TT W (n + 1)) f__law_varied _ S).to _
    refine run_too rfl ?_
    unfold f__law_varied
    obtain ⟨_, S1, e1, v, rfl, v0, v1, k1, fr1⟩ := call_next (W := W) h (by omega) n
    have hk1 := fr1.get hk hlo
    have hb1 := fr1.get hb hlb
    have fm : ∀ {S S' : St}, Frm d.A S S' → Frm (fun i => d.A i ∨ i = lo ∨ i = lb) S S' := fun h => h.mono fun _ _ h => .inl h
    by_cases h8 : v % 8 = 0
    · obtain ⟨_, S2, e2, t, kn2, R⟩ := call_open (W := W) ks K hlo 1 k kn (B + 1) S1 (n + 1) k1 hk1 (by omega) (by omega) (by omega)
      have r7 := R.len
      rw [R.x] at e2
      simp only [Int.natCast_one] at e2
      simp [exSs, exS, evE, evEs, evL, evIt, evC, evO, asgT, asgTs, wipe, itemsOf, idx_tup, at0, at1, at2, okO, cmpD, asBool, lstAt, gc_self, okG, c_str, c_int, c_non, e_str, e_int, e_non, rngD, mkLst, e1, b_mod, h8, e2, finD]
      refine var_gc (kn' := kn2) (bs' := bs) ⟨rfl, R.of, Nat.le_trans R.ht (by omega), R.ord, by rw [hv]; omega, R.kn, R.fr.get hb1 (fun z => z.elim hlb fun e => hne e.symm), fun p hp => Nat.lt_of_lt_of_le (hbi p hp) R.ord.le, Nat.le_trans hbl R.ord.le, R.dk.le (by rw [hv]; omega), (fm fr1).trans (R.fr.mono fun i _ h => h.imp id .inl)⟩ h lol lbl
    · obtain ⟨ps, hps, hofs⟩ := hof
      obtain ⟨zl, zo⟩ := hofs.zip
      obtain ⟨rr, hrr⟩ := rows_of hps fun qs hq => makers_fun K hq hps
      have cm := fun S => call_makers (W := W) ks k n S
      simp [exSs, exS, evE, evEs, evL, evIt, evC, evO, asgT, asgTs, wipe, itemsOf, idx_tup, at0, at1, at2, okO, cmpD, asBool, lstAt, gc_self, okG, c_str, c_int, c_non, e_str, e_int, e_non, rngD, mkLst, e1, b_mod, h8, i_mk0, i_mk1, sMade, cm]
      rw [compD_of (F := mkD) (g := fun m => if m.1 = w then [D.tup (m.2.map .str)] else []) fun m hm => by
        by_cases e : m.1 = w
        · simp [exSs, exS, evE, evEs, evL, evIt, evC, evO, asgT, asgTs, wipe, itemsOf, idx_tup, at0, at1, at2, okO, cmpD, asBool, lstAt, gc_self, okG, c_str, c_int, c_non, e_str, e_int, e_non, rngD, mkLst, mkD, e]
        · simp [exSs, exS, evE, evEs, evL, evIt, evC, evO, asgT, asgTs, wipe, itemsOf, idx_tup, at0, at1, at2, okO, cmpD, asBool, lstAt, gc_self, okG, c_str, c_int, c_non, e_str, e_int, e_non, rngD, mkLst, mkD, e]]
      rw [hrr]
      simp [exSs, exS, evE, evEs, evL, evIt, evC, evO, asgT, asgTs, wipe, itemsOf, idx_tup, at0, at1, at2, okO, cmpD, asBool, lstAt, gc_self, okG, c_str, c_int, c_non, e_str, e_int, e_non, rngD, mkLst, Gd.ok, i_mk2]
      refine lft_to ?_
      simp [exSs, exS, evE, evEs, evL, evIt, evC, evO, asgT, asgTs, wipe, itemsOf, idx_tup, at0, at1, at2, okO, cmpD, asBool, lstAt, gc_self, okG, c_str, c_int, c_non, e_str, e_int, e_non, rngD, mkLst, lbD, i_mk1]
      have hz : ((Tm.Ds ts).zip (ps.map D.str)).map (fun r => D.tup [r.1, r.2]) = (ts.zip ps).map fun r => D.tup [r.1.D, .str r.2] := by
        rw [Tm.Ds_map, List.zip_map, List.map_map]
        rfl
      rw [hz]
      refine compD_to (F := fun r : Tm × Sg => D.tup [r.1.D, .str r.2]) (fun l a S' => ∃ (pre : List (Tm × Sg)) (us : List Tm) (kn1 : List Sg) (bs1 : List (Sg × Nat)), ts.zip ps = pre ++ l ∧ us.length = pre.length ∧ a = us.map Tm.D ∧ OfKs ks (pre.map (·.2)) us ∧ (∀ t ∈ us, t.ht + 1 ≤ Tm.hts ts + 1) ∧ Ord kn.length (us.flatMap Tm.lvs) kn1.length ∧ kn1.length ≤ kn.length + vcs (pre.map (·.1)) ∧
        S'[lo]? = some (.lst (kn1.map .str)) ∧ S'[lb]? = some (.dct (byR bs1)) ∧ (∀ p ∈ bs1, p.2 < kn1.length) ∧ bs1.length ≤ kn1.length ∧ DkAt d (B + 1 + (vcs (pre.map (·.1)) : Nat)) S' ∧ Frm (fun i => d.A i ∨ i = lo ∨ i = lb) S S')
        ⟨[], [], kn, bs, rfl, rfl, rfl, rfl, by simp, Ord.nil _, by simp [vcs], hk1, hb1, hbi, hbl, k1.le (by simp [vcs]), fm fr1⟩ (fun _ _ _ _ => rfl) ?_ ?_
      · rintro q l a S3 ⟨pre, us, kn1, bs1, u1, u2, rfl, u4, u5, u6, u7, u8, u9, u10, u11, u12, u13⟩
        have hq : q ∈ ts.zip ps := by rw [u1]; simp
        have hqt := (List.of_mem_zip hq).1
        have hvs : vcs ts = vcs (pre.map (·.1)) + (vc q.1 + vcs (l.map (·.1))) := by
          have : ts = (ts.zip ps).map (·.1) := by rw [List.map_fst_zip (by omega)]
          rw [this, u1, List.map_append, vcs_app, List.map_cons, vcs]
        have hdp := Tm.dep_le hqt
        simp only [Tm.dep] at hn
        obtain ⟨_, S4, e4, t, kn2, bs2, R⟩ := ih q.1 hqt q.2 kn1 bs1 (B + 1 + (vcs (pre.map (·.1)) : Nat)) S3 (n + 1) (zo q hq) u12 u8 u9 u10 u11 (by omega) (by omega) (by omega)
        rw [R.x] at e4
        simp [exSs, exS, evE, evEs, evL, evIt, evC, evO, asgT, asgTs, wipe, itemsOf, idx_tup, at0, at1, at2, okO, cmpD, asBool, lstAt, gc_self, okG, c_str, c_int, c_non, e_str, e_int, e_non, rngD, mkLst, e4]
        have r7 := R.len
        have hvp : vcs ((pre ++ [q]).map (·.1)) = vcs (pre.map (·.1)) + vc q.1 := by rw [List.map_append, vcs_app]; simp [vcs]
        refine ⟨pre ++ [q], by rw [u1]; simp, us ++ [t], by simp [u2], by simp, by rw [List.map_append]; exact u4.snoc R.of, fun x hx => ?_, kn2, by rw [List.flatMap_append]; simpa using u6.app R.ord, by rw [hvp]; omega, R.kn, bs2, R.by_, fun a b hp => R.bin _ hp, R.bln, R.dk.le (by rw [hvp]; omega), u13.trans R.fr⟩
        rcases List.mem_append.mp hx with hx | hx
        · have := u5 x hx; omega
        · simp only [List.mem_singleton] at hx; subst hx
          have := R.ht
          have := Tm.ht_mem hqt
          omega
      · rintro a S3 ⟨pre, us, kn1, bs1, u1, u2, rfl, u4, u5, u6, u7, u8, u9, u10, u11, u12, u13⟩
        simp only [List.append_nil] at u1
        have p1 : pre.map (·.1) = ts := by rw [← u1, List.map_fst_zip (by omega)]
        have p2 : pre.map (·.2) = ps := by rw [← u1, List.map_snd_zip (by omega)]
        rw [p1] at u7 u12
        rw [p2] at u4
        simp [exSs, exS, evE, evEs, evL, evIt, evC, evO, asgT, asgTs, wipe, itemsOf, idx_tup, at0, at1, at2, okO, cmpD, asBool, lstAt, gc_self, okG, c_str, c_int, c_non, e_str, e_int, e_non, rngD, mkLst, finD]
        refine var_gc (t := .mk w us) (kn' := kn1) (bs' := bs1) ⟨by simp [Tm.D, sMade, Tm.Ds_map], ⟨ps, hps, u4⟩, Tm.hts_le u5, by simpa [Tm.lvs, Tm.lvss_map] using u6, by rw [hv]; omega, u8, u9, u10, u11, u12.le (by rw [hv]; omega), u13⟩ h lol lbl
end
end Hd
end
section
set_option linter.all false
set_option maxRecDepth 10000
namespace Hd
open ML
theorem Frm.new {A : Nat → Prop} {S S' S'' : St} (h : Frm A S S') (g : Frm (fun i => A i ∨ S.length ≤ i) S' S'') : Frm A S S'' :=
  ⟨Nat.le_trans h.1 g.1, fun i hi ha => (g.2 i (Nat.lt_of_lt_of_le hi h.1) (fun z => z.elim ha fun z => by omega)).trans (h.2 i hi ha)⟩
mutual
theorem vc_le {ks : List Kd} (K : KOk ks) : ∀ (t : Tm) (k : Sg) (h : Nat), OfK ks k t → t.ht ≤ h → vc t ≤ vb h
  | .nm x, k, h, _, _ => by cases h <;> simp [vc, vb]
  | .mk w ts, k, h, ho, hh => by
    obtain ⟨ps, hps, hofs⟩ := ho
    have hl := (makers_ok K k).1.par _ hps
    cases h with
    | zero =>
      cases ts with
      | nil => simp [vc, vcs, vb]
      | cons t r => simp [Tm.ht, Tm.hts] at hh
    | succ h =>
      have := vcs_le K ts ps h hofs fun t ht => by
        have := Tm.ht_mem ht
        simp only [Tm.ht] at hh
        omega
      have h2 : ts.length ≤ 3 := by rw [hofs.zip.1]; exact hl
      have h3 : vb h * ts.length ≤ vb h * 3 := Nat.mul_le_mul_left _ h2
      simp only [vc, vb]
      omega
theorem vcs_le {ks : List Kd} (K : KOk ks) : ∀ (ts : List Tm) (ps : List Sg) (h : Nat), OfKs ks ps ts → (∀ t ∈ ts, t.ht ≤ h) → vcs ts ≤ vb h * ts.length
  | [], _, _, _, _ => by simp [vcs]
  | t :: ts, ps, h, ho, hh => by
    obtain ⟨p, r, e, h1, h2⟩ := ho
    have a := vc_le K t p h h1 (hh t (by simp))
    have b := vcs_le K ts r h h2 fun t ht => hh t (List.mem_cons_of_mem _ ht)
    simp only [vcs, List.length_cons, Nat.mul_add, Nat.mul_one]
    omega
end
theorem FK.zip {ks : List Kd} {h : Nat} : ∀ {ns : Ns} {fs : Fs}, FK ks h ns fs → fs.length = ns.length ∧ fs.map (·.1) = ns.map (·.1) ∧ (∀ q ∈ ns.zip fs, OfK ks q.1.2 q.2.2 ∧ q.2.2.ht ≤ h) ∧ ∀ p ∈ fs, ∃ k, OfK ks k p.2 ∧ p.2.ht ≤ h
  | [], fs, a => by simp only [FK] at a; subst a; simp
  | n :: ns, fs, a => by
    obtain ⟨t, r, e, h1, h2, h3⟩ := a
    subst e
    obtain ⟨z1, z2, z3, z4⟩ := FK.zip h3
    refine ⟨by simp [z1], by simp [z2], fun q hq => ?_, fun p hp => ?_⟩
    · simp only [List.zip_cons_cons, List.mem_cons] at hq
      rcases hq with rfl | hq
      · exact ⟨h1, h2⟩
      · exact z3 q hq
    · rcases List.mem_cons.mp hp with rfl | hp
      · exact ⟨n.2, h1, h2⟩
      · exact z4 p hp
theorem ht_dep : ∀ t : Tm, t.dep ≤ t.ht + 1 := by
  intro t
  induction t using Tm.ind with
  | hn x => simp [Tm.dep]
  | hm w ts ih =>
    simp only [Tm.dep, Tm.ht]
    have : Tm.deps ts ≤ Tm.hts ts := by
      clear w
      induction ts with
      | nil => simp [Tm.deps, Tm.hts]
      | cons a r ihr =>
        have h1 := ih a (by simp)
        have h2 := ihr fun t ht => ih t (List.mem_cons_of_mem _ ht)
        simp only [Tm.deps, Tm.hts]
        omega
    omega
section
variable {W : Nat}
theorem call_second {ks : List Kd} (K : KOk ks) {d : Dk} {lk : Nat} (hlk : ¬ d.A lk) (ns : Ns) (fs : Fs) (hgt : Nat) (hh : hgt ≤ 2) (hn4 : ns.length ≤ 4) (hF : FK ks hgt ns fs) (B : Int) (S : St) (n : Nat) (h : DkAt d B S) (hk : S[lk]? = some (.lst [])) (hB : B + 300 ≤ 900000) (hn : 20 ≤ n) :
    (call TT W n 27 [.loc d.l, KD ks, NsD ns, Fs.D fs, .loc lk] S).to fun x S' => ∃ (gs : Fs) (kn' : List Sg), x = Fs.D gs ∧ FK ks (hgt + 1) ns gs ∧ Ord 0 (gs.flatMap fun p => p.2.lvs) kn'.length ∧ kn'.length ≤ 300 ∧ S'[lk]? = some (.lst (kn'.map .str)) ∧ DkAt d (B + 300) S' ∧ Frm (fun i => d.A i ∨ i = lk) S S' := by
  obtain ⟨n, rfl⟩ : ∃ m, n = m + 2 := ⟨n - 2, by omega⟩
  obtain ⟨z1, z2, z3, z4⟩ := hF.zip
  have lkl := lt_of_get hk
  have ll := h.ll
  have nA : ∀ i, S.length ≤ i → ¬ d.A i := fun i hi => by
    rintro (e | e | e)
    · have := ll.1; omega
    · have := ll.2.1; omega
    · have := ll.2.2; omega
  show (runFn TT W (call TT W (n + 1)) f__law_second _ S).to _
  refine run_too rfl ?_
  unfold f__law_second NsD Fs.D
  have vb2 : vb hgt ≤ 65 := by
    have : hgt = 0 ∨ hgt = 1 ∨ hgt = 2 := by omega
    rcases this with rfl | rfl | rfl <;> decide
  have hpre : ∀ (pre : List ((Sg × Sg) × (Sg × Tm))) l, ns.zip fs = pre ++ l → vcs (pre.map (·.2.2)) ≤ 65 * pre.length := fun pre l e => by
    have hm : ∀ q ∈ pre, vc q.2.2 ≤ 65 := fun q hq => by
      have := z3 q (by rw [e]; simp [hq])
      exact Nat.le_trans (vc_le K _ _ _ this.1 this.2) vb2
    clear e
    induction pre with
    | nil => simp [vcs]
    | cons q r ih =>
      have a := hm q (by simp)
      have b := ih fun x hx => hm x (List.mem_cons_of_mem _ hx)
      simp only [List.map_cons, vcs, List.length_cons, Nat.mul_add, Nat.mul_one]
      omega
  have hzl : (ns.zip fs).length ≤ 4 := by simp; omega
  simp [exSs, exS, evE, evEs, evL, evIt, evC, evO, asgT, asgTs, wipe, itemsOf, idx_tup, at0, at1, at2, okO, cmpD, asBool, lstAt, gc_self, okG, c_str, c_int, c_non, e_str, e_int, e_non, rngD, mkLst]
  have hz : ((ns.map nsD).zip (fs.map flD)).map (fun r => D.tup [r.1, r.2]) = (ns.zip fs).map fun r => D.tup [nsD r.1, flD r.2] := by
    rw [List.zip_map, List.map_map]
    rfl
  rw [hz]
  have b0 : (S ++ O.lst [] :: O.dct (byR []) :: O.lst [] :: [])[S.length]? = some (.lst []) := st0
  have b1 : (S ++ O.lst [] :: O.dct (byR []) :: O.lst [] :: [])[S.length + 1]? = some (.dct (byR [])) := st1
  have b2 : (S ++ O.lst [] :: O.dct (byR []) :: O.lst [] :: [])[S.length + 2]? = some (.lst []) := st2
  refine forD_to (F := fun r : (Sg × Sg) × (Sg × Tm) => D.tup [nsD r.1, flD r.2]) (fun l σ S' => ∃ (pre : List ((Sg × Sg) × (Sg × Tm))) (us : Fs) (kn1 : List Sg) (bs1 : List (Sg × Nat)) (x8 x9 x10 x11 : Option D), σ = [some (.loc d.l), some (KD ks), some (.tup (ns.map nsD)), some (.tup (fs.map flD)), some (.loc lk), some (.loc S.length), some (.loc (S.length + 1)), some (.loc (S.length + 2)), x8, x9, x10, x11] ∧
    ns.zip fs = pre ++ l ∧ FK ks (hgt + 1) (pre.map (·.1)) us ∧ Ord 0 (us.flatMap fun p => p.2.lvs) kn1.length ∧ kn1.length ≤ vcs (pre.map (·.2.2)) ∧ S'[lk]? = some (.lst []) ∧ S'[S.length]? = some (.lst (kn1.map .str)) ∧ S'[S.length + 1]? = some (.dct (byR bs1)) ∧ S'[S.length + 2]? = some (.lst (us.map flD)) ∧
    (∀ p ∈ bs1, p.2 < kn1.length) ∧ bs1.length ≤ kn1.length ∧ DkAt d (B + (vcs (pre.map (·.2.2)) : Nat)) S' ∧ Frm d.A S S') (fun _ _ _ _ => rfl) ?_ ?_ ⟨[], [], [], [], _, _, _, _, rfl, rfl, rfl, Ord.nil _, by simp, get_app hk, b0, b1, b2, by simp, by simp, h.app.le (by simp [vcs]), Frm.app⟩
  · rintro q l σ S' ⟨pre, us, kn1, bs1, x8, x9, x10, x11, rfl, t1, t2, t3, t4, t5, t6, t7, t8, t9, t10, t11, t12⟩
    have hq := z3 q (by rw [t1]; simp)
    have hpl : pre.length < 4 := by have := congrArg List.length t1; simp only [List.length_append, List.length_cons] at this; omega
    have hpv := hpre pre _ t1
    have hv := Nat.le_trans (vc_le K _ _ _ hq.1 hq.2) vb2
    have hdp := ht_dep q.2.2
    obtain ⟨_, S4, e4, t, kn2, bs2, R⟩ := call_varied (W := W) ks K (nA S.length (by omega)) (nA (S.length + 1) (by omega)) (by omega) q.2.2 q.1.2 kn1 bs1 (B + (vcs (pre.map (·.2.2)) : Nat)) S' (n + 1) hq.1 t11 t6 t7 t9 t10 (by omega) (by omega) (by omega)
    rw [R.x] at e4
    have r7 := R.len
    have frn : Frm d.A S S4 := t12.new (R.fr.mono fun i _ hi => hi.imp id fun z => by omega)
    have g5 : S4[lk]? = some (.lst []) := R.fr.get t5 fun z => by rcases z with z | z | z; exact hlk z; omega; omega
    have g8 : S4[S.length + 2]? = some (.lst (us.map flD)) := R.fr.get t8 fun z => by rcases z with z | z | z; exact nA _ (by omega) z; omega; omega
    have ul : (us.map flD).length < lim := by
      have := t2.zip.1
      simp only [List.length_map] at this ⊢
      rw [this]
      unfold lim
      omega
    have hvp : vcs ((pre ++ [q]).map (·.2.2)) = vcs (pre.map (·.2.2)) + vc q.2.2 := by rw [List.map_append, vcs_app]; simp [vcs]
    simp [exSs, exS, evE, evEs, evL, evIt, evC, evO, asgT, asgTs, wipe, itemsOf, idx_tup, at0, at1, at2, okO, cmpD, asBool, lstAt, gc_self, okG, c_str, c_int, c_non, e_str, e_int, e_non, rngD, mkLst, nsD, flD, ok_app t8, e4, m_append g8 ul]
    have d1 : S.length + 2 ≠ S.length := by omega
    have d2 : S.length + 2 ≠ S.length + 1 := by omega
    have d3 : S.length + 2 ≠ lk := by omega
    have gx : (S4.set (S.length + 2) (O.lst (us.map flD ++ [D.tup [D.str q.1.1, t.D]])))[S.length + 2]? = some (.lst ((us ++ [(q.1.1, t)]).map flD)) := by rw [get_set g8]; simp [flD]
    exact ⟨pre ++ [q], by rw [t1]; simp, us ++ [(q.1.1, t)], by rw [List.map_append]; exact t2.snoc R.of (Nat.le_trans R.ht (by have := hq.2; omega)), kn2, by rw [List.flatMap_append]; simpa using t3.app R.ord, by rw [hvp]; omega, by rw [get_set_ne d3]; exact g5, R.kn, bs2, R.by_, gx, fun a b hp => R.bin _ hp, R.bln, (R.dk.set (nA _ (by omega))).le (by rw [hvp]; omega), frn.set_new (by omega)⟩
  · rintro σ S' ⟨pre, us, kn1, bs1, x8, x9, x10, x11, rfl, t1, t2, t3, t4, t5, t6, t7, t8, t9, t10, t11, t12⟩
    simp only [List.append_nil] at t1
    have hpv := hpre pre [] (by simpa using t1)
    have hp4 : pre.length ≤ 4 := by rw [← t1]; exact hzl
    have p1 : pre.map (·.1) = ns := by rw [← t1, List.map_fst_zip (by omega)]
    rw [p1] at t2
    have kl2 : kn1.length ≤ lim := by unfold lim; omega
    have ex : ∀ X, mthLD .extend (.loc lk) ⟨true, kn1.map .str, X, false⟩ S' = .ok .non (S'.set lk (.lst (kn1.map .str))) := fun X => by simp [mthLD, t5, kl2]
    have g8 : (S'.set lk (O.lst (kn1.map .str)))[S.length + 2]? = some (.lst (us.map flD)) := by rw [get_set_ne (by omega)]; exact t8
    have tp : bltD .tup [.loc (S.length + 2)] (S'.set lk (O.lst (kn1.map .str))) = .ok (.tup (us.map flD)) (S'.set lk (O.lst (kn1.map .str))) := by simp [bltD, itemsOf, lstAt, g8]
    simp [exSs, exS, evE, evEs, evL, evIt, evC, evO, asgT, asgTs, wipe, itemsOf, idx_tup, at0, at1, at2, okO, cmpD, asBool, lstAt, gc_self, okG, c_str, c_int, c_non, e_str, e_int, e_non, rngD, mkLst, ok_ext t5, t6, ex, tp, finD]
    refine gc_to ⟨us, rfl, t2, kn1, t3, by omega, get_set t5, (t11.set hlk).le (by omega), (t12.mono fun _ _ h => .inl h).trans (Frm.set (.inr rfl))⟩ fun e => ⟨us, rfl, t2, kn1, t3, by omega, take_get e (get_set t5) lkl, h.le (by omega), Frm.refl⟩
end
end Hd
end
section
set_option linter.all false
set_option maxRecDepth 10000
namespace Hd
open ML
/-! ### what the going meets, of drawn fills -/
def valS (s : Sg) : Nat := s.foldl (fun a c => a * 10 + (c - 48)) 0
theorem val_num : ∀ i, i < 1000 → valS (num i) = i := by decide +kernel
theorem num_inj {i j : Nat} (hi : i < 1000) (hj : j < 1000) (e : num i = num j) : i = j := by
  rw [← val_num i hi, ← val_num j hj, e]
def nr (m : Nat) : List Sg := (List.range m).map fun i => num (i + 1)
theorem Ord.ded {m m' : Nat} {xs : List Sg} (h : Ord m xs m') (hm : m' ≤ 900) : ded (nr m) xs = nr m' := by
  induction h with
  | nil => rfl
  | old h r ih =>
    rename_i m i m' xs
    have : num (i + 1) ∈ nr m := List.mem_map.mpr ⟨i, by simpa using h, rfl⟩
    simp only [Hd.ded, this, if_true]
    exact ih hm
  | new r ih =>
    rename_i m m' xs
    have hle := r.le
    have : num (m + 1) ∉ nr m := fun hx => by
      obtain ⟨i, hi, e⟩ := List.mem_map.mp hx
      have := List.mem_range.mp hi
      have := num_inj (by omega) (by omega) e
      omega
    simp only [Hd.ded, this, if_false]
    have e : nr m ++ [num (m + 1)] = nr (m + 1) := by simp [nr, List.range_succ]
    rw [e]
    exact ih hm
theorem Ord.mem {m m' : Nat} {xs : List Sg} (h : Ord m xs m') : ∀ x ∈ xs, ∃ i, i < m' ∧ x = num (i + 1) := by
  induction h with
  | nil => intro x hx; cases hx
  | old h r ih =>
    intro x hx
    rcases List.mem_cons.mp hx with e | e
    · exact ⟨_, Nat.lt_of_lt_of_le h r.le, e⟩
    · exact ih x e
  | new r ih =>
    intro x hx
    rcases List.mem_cons.mp hx with e | e
    · exact ⟨_, r.le, e⟩
    · exact ih x e
mutual
/-- all that stands within -/
def sbs : Tm → List Tm
  | .nm x => [.nm x]
  | .mk w ts => .mk w ts :: sbss ts
def sbss : List Tm → List Tm
  | [] => []
  | t :: ts => sbs t ++ sbss ts
end
theorem sbss_map : ∀ ts : List Tm, sbss ts = ts.flatMap sbs
  | [] => rfl
  | t :: ts => by simp [sbss, sbss_map ts]
theorem sbs_self (t : Tm) : t ∈ sbs t := by cases t <;> simp [sbs]
theorem sbs_ind {P : Tm → Prop} (hp : ∀ w ts, P (.mk w ts) → ∀ t ∈ ts, P t) : ∀ u : Tm, P u → ∀ t ∈ sbs u, P t := by
  intro u
  induction u using Tm.ind with
  | hn x => intro h t ht; simp only [sbs, List.mem_singleton] at ht; subst ht; exact h
  | hm w ts ih =>
    intro h t ht
    simp only [sbs, List.mem_cons, sbss_map, List.mem_flatMap] at ht
    rcases ht with rfl | ⟨v, hv, ht⟩
    · exact h
    · exact ih v hv (hp w ts h v hv) t ht
theorem sbs_part {w : Sg} {ts : List Tm} : ∀ u : Tm, .mk w ts ∈ sbs u → ∀ t ∈ ts, t ∈ sbs u := by
  intro u
  induction u using Tm.ind with
  | hn x => intro h; simp [sbs] at h
  | hm v us ih =>
    intro h t ht
    simp only [sbs, List.mem_cons, sbss_map, List.mem_flatMap] at h ⊢
    rcases h with e | ⟨u, hu, h⟩
    · simp only [Tm.mk.injEq] at e
      obtain ⟨_, e⟩ := e
      subst e
      exact .inr ⟨t, ht, sbs_self t⟩
    · exact .inr ⟨u, hu, ih u hu h t ht⟩
theorem sbs_lvs {x : Sg} : ∀ u : Tm, .nm x ∈ sbs u → x ∈ u.lvs := by
  intro u
  induction u using Tm.ind with
  | hn y => intro h; simp [sbs] at h; simp [Tm.lvs, h]
  | hm v us ih =>
    intro h
    simp only [sbs, List.mem_cons, sbss_map, List.mem_flatMap, Tm.lvs, Tm.lvss_map] at h ⊢
    rcases h with e | ⟨u, hu, h⟩
    · cases e
    · exact ⟨u, hu, ih u hu h⟩
mutual
/-- mades with parts within -/
def mds : Tm → List Tm
  | .nm _ => []
  | .mk w ts => (if ts.isEmpty then [] else [.mk w ts]) ++ mdss ts
def mdss : List Tm → List Tm
  | [] => []
  | t :: ts => mds t ++ mdss ts
end
theorem mdss_map : ∀ ts : List Tm, mdss ts = ts.flatMap mds
  | [] => rfl
  | t :: ts => by simp [mdss, mdss_map ts]
theorem sbs_mds {w : Sg} {ts : List Tm} (hne : ts ≠ []) : ∀ u : Tm, .mk w ts ∈ sbs u → .mk w ts ∈ mds u := by
  intro u
  induction u using Tm.ind with
  | hn x => intro h; simp [sbs] at h
  | hm v us ih =>
    intro h
    simp only [sbs, List.mem_cons, sbss_map, List.mem_flatMap] at h
    simp only [mds, mdss_map, List.mem_append, List.mem_flatMap]
    rcases h with e | ⟨u, hu, h⟩
    · simp only [Tm.mk.injEq] at e
      obtain ⟨e1, e⟩ := e
      subst e e1
      cases ts with
      | nil => exact absurd rfl hne
      | cons a r => exact .inl (by simp)
    · exact .inr ⟨u, hu, ih u hu h⟩
/-! sizes by height -/
def cb : Nat → Nat
  | 0 => 0
  | h + 1 => 1 + 3 * cb h
def zb : Nat → Nat
  | 0 => 1
  | h + 1 => 1 + 3 * zb h
structure Siz (h : Nat) (t : Tm) : Prop where
  md : (mds t).length ≤ cb h
  lv : t.lvs.length ≤ zb h
  sz : t.sz ≤ zb h
theorem zb_pos : ∀ h, 1 ≤ zb h
  | 0 => Nat.le_refl _
  | h + 1 => by simp [zb]
mutual
theorem siz {ks : List Kd} (K : KOk ks) : ∀ (t : Tm) (k : Sg) (h : Nat), OfK ks k t → t.ht ≤ h → Siz h t
  | .nm x, k, h, _, _ => by
    have := zb_pos h
    exact ⟨by simp [mds], by simpa [Tm.lvs] using this, by simpa [Tm.sz] using this⟩
  | .mk w ts, k, h, ho, hh => by
    obtain ⟨ps, hps, hofs⟩ := ho
    have hl := (makers_ok K k).1.par _ hps
    cases h with
    | zero =>
      cases ts with
      | nil => exact ⟨by simp [mds, mdss], by simp [Tm.lvs, Tm.lvss], by simp [Tm.sz, Tm.szs, zb]⟩
      | cons t r => simp [Tm.ht, Tm.hts] at hh
    | succ h =>
      obtain ⟨a, b, c⟩ := sizs K ts ps h hofs fun t ht => by
        have := Tm.ht_mem ht
        simp only [Tm.ht] at hh
        omega
      have h2 : ts.length ≤ 3 := by rw [hofs.zip.1]; exact hl
      have h3 : cb h * ts.length ≤ cb h * 3 := Nat.mul_le_mul_left _ h2
      have h4 : zb h * ts.length ≤ zb h * 3 := Nat.mul_le_mul_left _ h2
      refine ⟨?_, ?_, ?_⟩
      · simp only [mds, cb, List.length_append]
        have : (if ts.isEmpty then [] else [Tm.mk w ts]).length ≤ 1 := by split <;> simp
        omega
      · simp only [Tm.lvs, zb]; omega
      · simp only [Tm.sz, zb]; omega
theorem sizs {ks : List Kd} (K : KOk ks) : ∀ (ts : List Tm) (ps : List Sg) (h : Nat), OfKs ks ps ts → (∀ t ∈ ts, t.ht ≤ h) → (mdss ts).length ≤ cb h * ts.length ∧ (Tm.lvss ts).length ≤ zb h * ts.length ∧ Tm.szs ts ≤ zb h * ts.length
  | [], _, _, _, _ => by simp [mdss, Tm.lvss, Tm.szs]
  | t :: ts, ps, h, ho, hh => by
    obtain ⟨p, r, e, h1, h2⟩ := ho
    have a := siz K t p h h1 (hh t (by simp))
    obtain ⟨b1, b2, b3⟩ := sizs K ts r h h2 fun t ht => hh t (List.mem_cons_of_mem _ ht)
    have a1 := a.md
    have a2 := a.lv
    have a3 := a.sz
    simp only [mdss, Tm.lvss, Tm.szs, List.length_append, List.length_cons, Nat.mul_add, Nat.mul_one]
    omega
end
/-! with a sign ahead of each name -/
theorem side_of {ks : List Kd} {s : Sg} (t : Tm) : ∀ k, OfK ks k t → OfK ks k (t.side s) := by
  induction t using Tm.ind with
  | hn x => intro k h; exact trivial
  | hm w ts ih =>
    intro k ⟨ps, hps, ho⟩
    refine ⟨ps, hps, ?_⟩
    clear hps
    induction ts generalizing ps with
    | nil => exact ho
    | cons t r ihr =>
      obtain ⟨p, q, e, h1, h2⟩ := ho
      exact ⟨p, q, e, ih t (by simp) p h1, ihr (fun t ht => ih t (List.mem_cons_of_mem _ ht)) q h2⟩
theorem side_ht {s : Sg} (t : Tm) : (t.side s).ht = t.ht := by
  induction t using Tm.ind with
  | hn x => rfl
  | hm w ts ih =>
    simp only [Tm.side, Tm.sub, Tm.ht, Tm.subs_map]
    clear w
    induction ts with
    | nil => rfl
    | cons a r ihr =>
      have h1 := ih a (by simp)
      have h2 := ihr fun t ht => ih t (List.mem_cons_of_mem _ ht)
      simp only [Tm.side] at h1
      simp only [List.map_cons, Tm.hts, h1, h2]
theorem sh_of {ks : List Kd} (K : KOk ks) (t : Tm) : ∀ k, OfK ks k t → (∀ x ∈ t.lvs, x.length ≤ 1000) → t.sh 1000 := by
  induction t using Tm.ind with
  | hn x => intro k _ h; exact h x (by simp [Tm.lvs])
  | hm w ts ih =>
    intro k ⟨ps, hps, ho⟩ hx
    refine ⟨by have := makers_len K hps; simp only at this; omega, ?_⟩
    simp only [Tm.lvs] at hx
    clear hps
    induction ts generalizing ps with
    | nil => trivial
    | cons t r ihr =>
      obtain ⟨p, q, e, h1, h2⟩ := ho
      simp only [Tm.lvss] at hx
      exact ⟨ih t (by simp) p h1 fun x h => hx x (List.mem_append_left _ h), ihr (fun t ht => ih t (List.mem_cons_of_mem _ ht)) q h2 fun x h => hx x (List.mem_append_right _ h)⟩
theorem side_lvs {s : Sg} (t : Tm) : (t.side s).lvs = t.lvs.map fun x => s ++ x := by
  induction t using Tm.ind with
  | hn x => rfl
  | hm w ts ih =>
    simp only [Tm.side, Tm.sub, Tm.lvs, Tm.lvss_map, Tm.subs_map]
    clear w
    induction ts with
    | nil => rfl
    | cons a r ihr =>
      have h1 := ih a (by simp)
      have h2 := ihr fun t ht => ih t (List.mem_cons_of_mem _ ht)
      simp only [Tm.side] at h1
      simp only [List.map_cons, List.flatMap_cons, List.map_append, h1, h2]
theorem sum_le {ks : List Kd} {h : Nat} {g : Tm → Nat} {b : Nat} : ∀ {ns : Ns} {fs : Fs}, FK ks h ns fs → (∀ p ∈ fs, g p.2 ≤ b) → (fs.map fun p => g p.2).sum ≤ ns.length * b
  | [], fs, a, _ => by simp only [FK] at a; subst a; simp
  | n :: ns, fs, a, hb => by
    obtain ⟨t, r, e, _, _, h3⟩ := a
    subst e
    have := hb (n.1, t) (by simp)
    have := sum_le h3 fun p hp => hb p (List.mem_cons_of_mem _ hp)
    simp only [List.map_cons, List.sum_cons, List.length_cons, Nat.add_mul, Nat.one_mul]
    simp only at *
    omega
end Hd
end
section
set_option linter.all false
set_option maxRecDepth 10000
namespace Hd
open ML
theorem gname_len {x : Sg} (h : gname x = true) : x.length ≤ 3 := by
  simp only [gname, Bool.and_eq_true, decide_eq_true_eq] at h
  exact h.1.1.2
theorem sum_len {α β : Type} {f : α → List β} : ∀ l : List α, (l.flatMap f).length = (l.map fun a => (f a).length).sum
  | [] => rfl
  | a :: l => by simp [List.flatMap_cons]
theorem OfKs.mem {ks : List Kd} : ∀ {ts : List Tm} {ps : List Sg} {t : Tm}, OfKs ks ps ts → t ∈ ts → ∃ k, OfK ks k t
  | [], _, _, _, h => nomatch h
  | a :: r, ps, t, o, h => by
    obtain ⟨p, q, e, o1, o2⟩ := o
    rcases List.mem_cons.mp h with rfl | h
    · exact ⟨p, o1⟩
    · exact o2.mem h
theorem pr_of {ks : List Kd} (K : KOk ks) {ns : Ns} {fs gs : Fs} {hf hg m m' : Nat} (F : FK ks hf ns fs) (G : FK ks hg ns gs) (hn : ns.length ≤ 4) (h3 : hf ≤ 3) (h3' : hg ≤ 3) (of : Ord 0 (fs.flatMap fun p => p.2.lvs) m) (og : Ord 0 (gs.flatMap fun p => p.2.lvs) m') (hm : m ≤ 300) (hm' : m' ≤ 300)
    (hU : ns.length * cb hf + ns.length * cb hg ≤ 60) : ∃ Sub Nm U, Pr Sub Nm U fs gs ∧ nmsOf fs = nr m ∧ nmsOf gs = nr m' := by
  obtain ⟨f1, f2, _, f4⟩ := F.zip
  obtain ⟨g1, g2, _, g4⟩ := G.zip
  have nm : ∀ {hs : Fs} {c : Nat}, Ord 0 (hs.flatMap fun p => p.2.lvs) c → c ≤ 300 → ∀ p ∈ hs, ∀ x ∈ p.2.lvs, x.length ≤ 3 := fun o hc p hp x hx => by
    obtain ⟨i, hi, e⟩ := o.mem x (List.mem_flatMap.mpr ⟨p, hp, hx⟩)
    rw [e]
    exact gname_len (gnum i (by omega))
  have zb3 : ∀ h, h ≤ 3 → zb h ≤ 40 := fun h hh => by
    have : h = 0 ∨ h = 1 ∨ h = 2 ∨ h = 3 := by omega
    rcases this with rfl | rfl | rfl | rfl <;> decide
  let T : List Tm := (fs.map fun p => p.2.side sA) ++ gs.map fun p => p.2.side sB
  have hT : ∀ u ∈ T, (∃ k h, OfK ks k u ∧ h ≤ 3 ∧ u.ht ≤ h) ∧ ∀ x ∈ u.lvs, x.length ≤ 4 := fun u hu => by
    rcases List.mem_append.mp hu with hu | hu
    · obtain ⟨p, hp, rfl⟩ := List.mem_map.mp hu
      obtain ⟨k, o, h⟩ := f4 p hp
      refine ⟨⟨k, hf, side_of _ k o, h3, by rw [side_ht]; exact h⟩, fun x hx => ?_⟩
      rw [side_lvs] at hx
      obtain ⟨y, hy, rfl⟩ := List.mem_map.mp hx
      have := nm of hm p hp y hy
      simp [sA]; omega
    · obtain ⟨p, hp, rfl⟩ := List.mem_map.mp hu
      obtain ⟨k, o, h⟩ := g4 p hp
      refine ⟨⟨k, hg, side_of _ k o, h3', by rw [side_ht]; exact h⟩, fun x hx => ?_⟩
      rw [side_lvs] at hx
      obtain ⟨y, hy, rfl⟩ := List.mem_map.mp hx
      have := nm og hm' p hp y hy
      simp [sB]; omega
  have hP : ∀ t, (∃ u ∈ T, t ∈ sbs u) → (∃ k, OfK ks k t) ∧ t.sh 1000 ∧ t.dep ≤ 20 := fun t ⟨u, hu, ht⟩ => by
    obtain ⟨⟨k, h, o, hh, hh2⟩, hx⟩ := hT u hu
    refine sbs_ind (P := fun t => (∃ k, OfK ks k t) ∧ t.sh 1000 ∧ t.dep ≤ 20) (fun w ts ⟨⟨k, o⟩, s, d⟩ t ht => ?_) u ⟨⟨k, o⟩, sh_of K u k o fun x h => by have := hx x h; omega, by have := ht_dep u; omega⟩ t ht
    obtain ⟨ps, _, o⟩ := o
    have hd := Tm.dep_le ht
    simp only [Tm.dep] at d
    exact ⟨o.mem ht, Tm.shs_mem s.2 ht, by omega⟩
  have cn : ∀ {h : Nat} {hs : Fs} {s : Sg}, h ≤ 3 → FK ks h ns hs → ((hs.map fun p => p.2.side s).flatMap mds).length ≤ ns.length * cb h ∧ ((hs.map fun p => p.2.side s).flatMap Tm.lvs).length ≤ ns.length * 40 := fun {h hs s} hh H => by
    have z := H.zip.2.2.2
    have sz : ∀ p ∈ hs, Siz h (p.2.side s) := fun p hp => by
      obtain ⟨k, o, hh⟩ := z p hp
      exact siz K _ k h (side_of _ k o) (by rw [side_ht]; exact hh)
    rw [sum_len, sum_len, List.map_map, List.map_map]
    exact ⟨sum_le (g := fun t => (mds (t.side s)).length) H fun p hp => (sz p hp).md, sum_le (g := fun t => (t.side s).lvs.length) H fun p hp => Nat.le_trans (sz p hp).lv (zb3 h hh)⟩
  have cf := cn (s := sA) h3 F
  have cg := cn (s := sB) h3' G
  have nf : nmsOf fs = nr m := of.ded (by omega)
  have ng : nmsOf gs = nr m' := og.ded (by omega)
  have da : ∀ {h : Nat} {hs : Fs} {c : Nat}, h ≤ 3 → FK ks h ns hs → Ord 0 (hs.flatMap fun p => p.2.lvs) c → c ≤ 300 → ∀ p ∈ hs, p.2.dep ≤ 20 ∧ p.2.sz ≤ 1000 ∧ p.2.sh 1000 := fun {h hs c} hh H o hc p hp => by
    obtain ⟨k, ok, ht⟩ := H.zip.2.2.2 p hp
    have := ht_dep p.2
    have := (siz K p.2 k h ok ht).sz
    have := zb3 h hh
    exact ⟨by omega, by omega, sh_of K _ k ok fun x hx => by have := nm o hc p hp x hx; omega⟩
  refine ⟨fun t => ∃ u ∈ T, t ∈ sbs u, T.flatMap Tm.lvs, T.flatMap mds, ⟨⟨?_, ?_, ?_, ?_, ?_, ?_, ?_⟩, by rw [f2, g2], ?_, ?_, da h3 F of hm, da h3' G og hm', by omega, ?_, ?_, ?_⟩, nf, ng⟩
  · rintro w ts ⟨u, hu, h⟩ t ht
    exact ⟨u, hu, sbs_part u h t ht⟩
  · rintro x ⟨u, hu, h⟩
    exact List.mem_flatMap.mpr ⟨u, hu, sbs_lvs u h⟩
  · rintro w ts ⟨u, hu, h⟩ hne
    exact List.mem_flatMap.mpr ⟨u, hu, sbs_mds hne u h⟩
  · exact fun t h => (hP t h).2.1
  · exact fun t h => (hP t h).2.2
  · intro w ts us h h'
    obtain ⟨⟨k, ps, hps, o⟩, _⟩ := hP _ h
    obtain ⟨⟨k', qs, hqs, o'⟩, _⟩ := hP _ h'
    rw [o.zip.1, o'.zip.1, makers_fun K hps hqs]
  · simp only [T, List.flatMap_append, List.length_append]
    omega
  · exact fun p hp => ⟨_, List.mem_append_left _ (List.mem_map_of_mem hp), sbs_self _⟩
  · exact fun p hp => ⟨_, List.mem_append_right _ (List.mem_map_of_mem hp), sbs_self _⟩
  · rw [nf]; simp [nr]; omega
  · rw [ng]; simp [nr]; omega
  · simp only [T, List.flatMap_append, List.length_append]
    omega
end Hd
end
section
set_option linter.all false
set_option maxRecDepth 10000
namespace Hd
open ML
theorem cb_le {n : Nat} (hn : 0 < n) (h4 : n ≤ 4) : n * cb (2 - n / 3) + n * cb (2 - n / 3 + 1) ≤ 60 ∧ n * cb (2 - n / 3) + n * cb (2 - n / 3) ≤ 60 := by
  have : n = 1 ∨ n = 2 ∨ n = 3 ∨ n = 4 := by omega
  rcases this with rfl | rfl | rfl | rfl <;> decide
theorem FK.up {ks : List Kd} {h h' : Nat} (hh : h ≤ h') : ∀ {ns : Ns} {fs : Fs}, FK ks h ns fs → FK ks h' ns fs
  | [], fs, a => a
  | n :: ns, fs, a => by
    obtain ⟨t, r, e, h1, h2, h3⟩ := a
    exact ⟨t, r, e, h1, Nat.le_trans h2 hh, h3.up hh⟩
theorem law50 (ns : List Int) (hn : ns.length ≤ 63) : ∃ S, call TT 100000 200 31 [.rol (ns.map .int)] [] = .ok (.bl true) S := by
  suffices h : (call TT 100000 200 31 [.rol (ns.map .int)] []).to fun x S' => x = .bl true by
    obtain ⟨x, S, e, rfl⟩ := h
    exact ⟨S, e⟩
  show (runFn TT 100000 (call TT 100000 199) f_law _ _).to _
  refine run_too rfl ?_
  unfold f_law
  obtain ⟨_, S1, e1, d, rfl, k1⟩ := call_deck (W := 100000) ns hn 198
  obtain ⟨_, S2, e2, ks, rfl, K, k2, _⟩ := call_kinds (W := 100000) k1 (by omega) 197
  obtain ⟨_, S3, e3, nms, rfl, n0, n4, k3, _⟩ := call_asked (W := 100000) k2 (by omega) ks K.len 197
  simp [exSs, exS, evE, evEs, evL, evIt, evC, evO, asgT, asgTs, wipe, itemsOf, idx_tup, at0, at1, at2, okO, cmpD, asBool, lstAt, gc_self, okG, c_str, c_int, c_non, e_str, e_int, e_non, rngD, mkLst, e1, e2, e3]
  have h3r : (-(lim : Int) ≤ 3 ∧ (3 : Int) ≤ lim) := by decide
  simp [exSs, exS, evE, evEs, evL, evIt, evC, evO, asgT, asgTs, wipe, itemsOf, idx_tup, at0, at1, at2, okO, cmpD, asBool, lstAt, gc_self, okG, c_str, c_int, c_non, e_str, e_int, e_non, rngD, mkLst, h3r]
  refine forD_to (F := fun k : Nat => D.int (k : Nat)) (fun l σ S' => (∃ (x4 x5 x6 x7 x8 x9 : Option D), σ = [some (.rol (ns.map .int)), some (.loc d.l), some (KD ks), some (NsD nms), x4, x5, x6, x7, x8, x9]) ∧ l.length ≤ 3 ∧ DkAt d (2000 - 600 * l.length) S') (fun _ _ _ _ => rfl) ?_ ?_ ⟨⟨_, _, _, _, _, _, rfl⟩, by decide, k3.le (by decide)⟩
  · rintro k l σ S' ⟨⟨x4, x5, x6, x7, x8, x9, rfl⟩, hl, kd⟩
    simp only [List.length_cons] at hl kd
    have ll := kd.ll
    have nA : ∀ i, S'.length ≤ i → ¬ d.A i := fun i hi => by
      rintro (e | e | e)
      · have := ll.1; omega
      · have := ll.2.1; omega
      · have := ll.2.2; omega
    have nl0 := nA S'.length (Nat.le_refl _)
    obtain ⟨_, T1, a1, fs, kn, rfl, F, oF, lF, gF, kF, frF⟩ := call_open_fills (W := 100000) K nl0 nms n0 n4 [] _ (S' ++ [O.lst []]) 199 kd.app (by simp) (by simp) (by omega) (by omega)
    have gF' : (T1 ++ [O.lst []])[S'.length]? = some (.lst (kn.map .str)) := get_app gF
    have hT1 := lt_of_get gF
    have nl1 := nA T1.length (by omega)
    obtain ⟨_, T2, a2, v, rfl, v0, v1, kv, frv⟩ := call_next (W := 100000) (kF.app (X := [O.lst []])) (by omega) 198
    have gM : T2[T1.length]? = some (.lst []) := frv.get (by simp) nl1
    have gF2 := frv.get gF' nl0
    have fin : ∀ (T3 : St) (gs : Fs) (kn' : List Sg) (hg : Nat), FK ks hg nms gs → hg ≤ 2 - nms.length / 3 + 1 → Ord 0 (gs.flatMap fun p => p.2.lvs) kn'.length → kn'.length ≤ 300 → T3[T1.length]? = some (.lst (kn'.map .str)) → T3[S'.length]? = some (.lst (kn.map .str)) → DkAt d (2000 - 600 * l.length) T3 →
        (∃ d1, call TT 100000 199 25 [anD fs sYes 0, anD gs sNo 1] T3 = .ok d1 T3 ∧ call TT 100000 199 24 [d1, anD fs sYes 0, anD gs sNo 1, .tup [.int (kn.length : Nat), .int (kn'.length : Nat)]] T3 = .ok (.bl true) T3) ∧
        (∃ d2, call TT 100000 199 25 [anD gs sNo 1, anD fs sYes 0] T3 = .ok d2 T3 ∧ call TT 100000 199 24 [d2, anD gs sNo 1, anD fs sYes 0, .tup [.int (kn'.length : Nat), .int (kn.length : Nat)]] T3 = .ok (.bl true) T3) ∧
        (∃ d3, call TT 100000 199 25 [anD fs sYes 0, anD fs sYes 0] T3 = .ok d3 T3 ∧ d3 ≠ .non ∧ call TT 100000 199 24 [d3, anD fs sYes 0, anD fs sYes 0, .tup [.int (kn.length : Nat), .int (kn.length : Nat)]] T3 = .ok (.bl true) T3) ∧
        bltD .len [.loc S'.length] T3 = .ok (.int (kn.length : Nat)) T3 ∧ bltD .len [.loc T1.length] T3 = .ok (.int (kn'.length : Nat)) T3 := fun T3 gs kn' hg G hhg oG lG t1 t2 _ => by
      have c := cb_le n0 n4
      have G := G.up hhg
      simp at lF
      obtain ⟨Sub, Nm, U, P, nf, ng⟩ := pr_of K F G n4 (by omega) (by omega) oF oG (by omega) lG c.1
      obtain ⟨Sub', Nm', U', P', nf', ng'⟩ := pr_of K G F n4 (by omega) (by omega) oG oF lG (by omega) (by omega)
      obtain ⟨Sub2, Nm2, U2, P2, nf2, ng2⟩ := pr_of K F F n4 (by omega) (by omega) oF oF (by omega) (by omega) c.2
      obtain ⟨d1, h1, _, h1'⟩ := call_right (W := 100000) P (by decide) sYes sNo 0 1 199 T3 (by have := P.ul; omega) (m := kn.length) (m' := kn'.length) (by omega) (by omega) nf ng
      obtain ⟨d2, h2, _, h2'⟩ := call_right (W := 100000) P' (by decide) sNo sYes 1 0 199 T3 (by have := P'.ul; omega) (m := kn'.length) (m' := kn.length) (by omega) (by omega) nf' ng'
      obtain ⟨d3, h3, h3n, h3'⟩ := call_right (W := 100000) P2 (by decide) sYes sYes 0 0 199 T3 (by have := P2.ul; omega) (m := kn.length) (m' := kn.length) (by omega) (by omega) nf2 nf2
      exact ⟨⟨d1, h1, h1'⟩, ⟨d2, h2, h2'⟩, ⟨d3, h3, h3n (can_self fs), h3'⟩, by simp [bltD, t2], by simp [bltD, t1]⟩
    have yD : ∀ fs : Fs, D.tup [Fs.D fs, .tup [.str [109, 97, 100, 101], .str [121, 101, 115], .tup []], .tup [.str [115, 107, 105, 112]], .int 0, .tup []] = anD fs sYes 0 := fun _ => rfl
    have nD : ∀ fs : Fs, D.tup [Fs.D fs, .tup [.str [109, 97, 100, 101], .str [110, 111], .tup []], .tup [.str [115, 107, 105, 112]], .int 1, .tup []] = anD fs sNo 1 := fun _ => rfl
    have ia : ∀ S, idxD (anD fs sYes 0) (.int 0) S = .ok (Fs.D fs) S := fun _ => rfl
    by_cases hv : v % 3 = 0
    · obtain ⟨_, T3, a3, gs, kn', rfl, G, oG, lG, gG, kG, frG⟩ := call_open_fills (W := 100000) K nl1 nms n0 n4 [] _ T2 199 kv gM (by simp) (by omega) (by omega)
      have kG' : DkAt d (2000 - 600 * l.length) T3 := kG.le (by omega)
      obtain ⟨⟨d1, h1, h1'⟩, ⟨d2, h2, h2'⟩, ⟨d3, h3, h3n, h3'⟩, q1, q2⟩ := fin T3 gs kn' _ G (by omega) oG (by simp at lG; omega) gG (frG.get gF2 fun z => z.elim nl0 (by omega)) kG'
      simp [exSs, exS, evE, evEs, evL, evIt, evC, evO, asgT, asgTs, wipe, itemsOf, idx_tup, at0, at1, at2, okO, cmpD, asBool, lstAt, gc_self, okG, c_str, c_int, c_non, e_str, e_int, e_non, rngD, mkLst, a1, yD, a2, b_mod, hv, a3, nD, h1, h1', h2, h2', h3, h3n, h3', q1, q2]
      exact ⟨by omega, kG'⟩
    · obtain ⟨_, T3, a3, gs, kn', rfl, G, oG, lG, gG, kG, frG⟩ := call_second (W := 100000) K nl1 nms fs (2 - nms.length / 3) (by omega) n4 F _ T2 199 kv gM (by omega) (by omega)
      have kG' : DkAt d (2000 - 600 * l.length) T3 := kG.le (by omega)
      obtain ⟨⟨d1, h1, h1'⟩, ⟨d2, h2, h2'⟩, ⟨d3, h3, h3n, h3'⟩, q1, q2⟩ := fin T3 gs kn' _ G (by omega) oG lG gG (frG.get gF2 fun z => z.elim nl0 (by omega)) kG'
      simp [exSs, exS, evE, evEs, evL, evIt, evC, evO, asgT, asgTs, wipe, itemsOf, idx_tup, at0, at1, at2, okO, cmpD, asBool, lstAt, gc_self, okG, c_str, c_int, c_non, e_str, e_int, e_non, rngD, mkLst, a1, yD, a2, b_mod, hv, ia, a3, nD, h1, h1', h2, h2', h3, h3n, h3', q1, q2]
      exact ⟨by omega, kG'⟩
  · rintro σ S' ⟨⟨x4, x5, x6, x7, x8, x9, rfl⟩, hl, kd⟩
    simp [exSs, exS, evE, evEs, evL, evIt, evC, evO, asgT, asgTs, wipe, itemsOf, idx_tup, at0, at1, at2, okO, cmpD, asBool, lstAt, gc_self, okG, c_str, c_int, c_non, e_str, e_int, e_non, rngD, mkLst, finD]
    exact gc_to rfl fun _ => rfl
end Hd
end
section
open PySem PySem.W PyProof.Rows
theorem PySem.Challenge.cw_needfill_k50_things_in_common_holds : PySem.Challenge.rw_needfill_k50_things_in_common.Holds := by
  exact holds_of Hd.law50
end
