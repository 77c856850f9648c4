import PyProof.Rows.All
import Wide.All
import OpenK.AllK
import Wide.FinOn
import PySem.Syntax
import HandS.Lambda
import HandS.ForMost
import HandS.Flow
import HandS.Exc
import HandS.TryOnly
import HandS.ExcOwn
import HandS.IsInst
import HandS.Walk
import HandS.TupAny
import HandS.Style
import HandS.TupMul
import HandS.Deep
import HandS.ForDict
import PyProof.WalksMore
import PyProof.Rows.SumAny
import HandS.Text
import HandS.ExcCtx
import HandS.Zip
import KE.GoesMore
import KE.GoesEnum
import HandS.Iter
import HandS.Zip0
import HandS.Small
import HandS.HotCalls
import HandS.ExcIs
import HandS.Head0
import HandS.Head1
import HandS.Head2
import HandS.HeadEnd
import HandS.HeadHook1
import HandS.HeadHook2
import HandS.HeadHook3
import HandS.HeadHook4
import HandS.EndTab
import HandS.HeadWalk
import PySem.Challenge.RW_boardforged_k00_whole_gates
set_option Elab.async false
set_option linter.all false
/-! Ev -/
set_option linter.all false
set_option maxRecDepth 100000
/-! A small interpreter of the plain part of Python that the program uses: values without identity, slots. -/
namespace BF
open PySem

/-- values -/
inductive D where
  | non | bl (b : Bool) | int (i : Int) | str (x : Str)
  | tup (xs : List D) | lst (xs : List D) | dic (kvs : List (D × D))
  | fn (f : Nat) | frz (xs : List D)
  deriving Inhabited

inductive Op2 where
  | add | sub | mul | fdiv | mod | pow | shl | shr | band | bor | bxor
inductive Cm where
  | eq | ne | lt | le | gt | ge | is | isn | isin | notin
inductive Bi where
  | len | abs | int | str | list | tuple | all | any | sum | sorted | min1 | max1 | min2 | max2
  | isInt | isBool | isStr | isTuple | isList
inductive Mt where
  | join | index | get1 | get2
inductive Mm where
  | append | pop0 | pop1

/-- targets -/
inductive T where
  | var (i : Nat) | tup (ts : List T)

mutual
inductive E where
  | var (i : Nat) | rv (i : Nat) | cst (d : D) | fn (f : Nat)
  | tup (es : Es) | lst (es : Es)
  | bin (op : Op2) (a b : E) | neg (a : E) | not (a : E)
  | and (a b : E) | or (a b : E)
  | cmp (op : Cm) (a b : E) | chain (op op' : Cm) (a b c : E)
  | ite (c a b : E)
  | call (f : Nat) (as : Es) | cal (i : Nat) (as : Es)
  | act (i : Nat) | lam (f : Nat) (b : E)
  | bi (b : Bi) (as : Es)
  | mt (m : Mt) (a : E) (as : Es) | mm (m : Mm) (i : Nat) (as : Es)
  | sub (a b : E) | sl (a : E) (lo hi : Eo) | rev (a : E)
  | lc (own : List Nat) (elt : E) (t : T) (it : I) (c : Eo)
  | dic (ks vs : Es)
  | isx (i : Nat) (c : Nat)
  | bad
inductive Es where
  | nil | cons (e : E) (es : Es)
inductive Eo where
  | none | some (e : E)
inductive I where
  | val (e : E) | lst (e : E) | rng1 (a : E) | rng2 (a b : E) | enum (a : E) | zip (a b : E) | bad
end

mutual
inductive S where
  | expr (e : E) | asg (t : T) (e : E) | asgr (i : Nat) (e : E)
  | par (is : List (Nat × Bool)) (es : Es)
  | seti (i : Nat) (k e : E)
  | ifs (c : E) (a b : Ss) | for (t : T) (it : I) (b : Ss) | while (c : E) (b : Ss)
  | ret (e : E) | retr (i : Nat) | retN | raise (c : Nat) | tryx (b : Ss) (c : Nat) (i : Option Nat) (h : Ss)
  | acts
  | pass | cont | brk | bad
inductive Ss where
  | nil | cons (s : S) (ss : Ss)
end

abbrev Sd := List (Option D)
inductive R (α : Type) where
  | ok (a : α) | exc (c : Nat) | bad
def R.bind {α β : Type} : R α → (α → R β) → R β
  | .ok a, f => f a
  | .exc c, _ => .exc c
  | .bad, _ => .bad
inductive Fl where
  | nx | br | ct | rt (d : D)

abbrev Fns := Nat → List D → R (D × List D)

def SZ : Nat := 16777216

/-! ### equality -/
mutual
def deq : D → D → Bool
  | .non, .non => true
  | .bl a, .bl b => a == b
  | .bl a, .int j => (if a then 1 else 0) == j
  | .int i, .bl b => i == (if b then 1 else 0)
  | .int i, .int j => i == j
  | .str x, .str y => x == y
  | .lst xs, .lst ys => deqs xs ys
  | .tup xs, .tup ys => deqs xs ys
  | _, _ => false
def deqs : List D → List D → Bool
  | [], [] => true
  | x :: xs, y :: ys => deq x y && deqs xs ys
  | _, _ => false
end
/-- what may be compared at any depth: at most n deep -/
def flat : D → Bool
  | .non => true | .bl _ => true | .int _ => true | .str _ => true | _ => false
mutual
def dp : Nat → D → Bool
  | _, .non => true
  | _, .bl _ => true
  | _, .int _ => true
  | _, .str x => x.cps.all (· < 0x110000)
  | n, .lst xs => (match n with | 0 => false | n + 1 => dps n xs)
  | n, .tup xs => (match n with | 0 => false | n + 1 => dps n xs)
  | _, _ => false
def dps : Nat → List D → Bool
  | _, [] => true
  | n, x :: xs => dp n x && dps n xs
end

/-! ### operators -/
def opI (op : Op2) (i j : Int) : Option Int :=
  match op with
  | .add => some (i + j)
  | .sub => some (i - j)
  | .mul => if (-(2 ^ 64) < i ∧ i < 2 ^ 64) ∨ (-(2 ^ 64) < j ∧ j < 2 ^ 64) then some (i * j) else none
  | .fdiv => if 0 < j ∧ j < 1073741824 then some (i / j) else none
  | .mod => if 0 < j then some (i % j) else none
  | .pow => if 0 ≤ j ∧ j ≤ 1000000 ∧ i.natAbs < 2 ^ 64 then some (i ^ j.toNat) else none
  | .shl => if 0 ≤ j ∧ j ≤ 1000000 ∧ i.natAbs < 2 ^ 64 then some (i * 2 ^ j.toNat) else none
  | .shr => if 0 ≤ j then some (i / 2 ^ j.toNat) else none
  | .band => if 0 ≤ i ∧ 0 ≤ j then some ((i.toNat &&& j.toNat : Nat) : Int) else none
  | .bor => if 0 ≤ i ∧ 0 ≤ j then some ((i.toNat ||| j.toNat : Nat) : Int) else none
  | .bxor => if 0 ≤ i ∧ 0 ≤ j then some ((i.toNat ^^^ j.toNat : Nat) : Int) else none
def rep (k : Int) (xs : List D) : List D := (List.replicate k.toNat xs).flatten
def bop (op : Op2) (a b : D) : Option D :=
  match a, b with
  | .int i, .int j => (opI op i j).map .int
  | .lst xs, .lst ys => (match op with
    | .add => if xs.length + ys.length ≤ SZ then some (.lst (xs ++ ys)) else none
    | _ => none)
  | .tup xs, .tup ys => (match op with
    | .add => if xs.length + ys.length ≤ SZ then some (.tup (xs ++ ys)) else none
    | _ => none)
  | .str x, .str y => (match op with
    | .add => if x.length + y.length ≤ SZ then some (.str (x ++ y)) else none
    | _ => none)
  | .lst xs, .int k => (match op with
    | .mul => if -(2 ^ 63) ≤ k ∧ k < 2 ^ 63 ∧ xs.length * k.toNat ≤ SZ then some (.lst (rep k xs)) else none
    | _ => none)
  | .tup xs, .int k => (match op with
    | .mul => if -1000 ≤ k ∧ k ≤ 1000 ∧ xs.length ≤ 1000 then some (.tup (rep k xs)) else none
    | _ => none)
  | _, _ => none
/-- truth -/
def tru : D → Option Bool
  | .non => some false
  | .bl b => some b
  | .int i => some (i != 0)
  | .str x => if x.length ≤ SZ then some ((x.length : Int) != 0) else none
  | .dic xs => some (!xs.isEmpty)
  | .tup xs => some (!xs.isEmpty)
  | .lst xs => some (!xs.isEmpty)
  | _ => none
/-- scalars that may be compared whatever they are -/
def scalD : D → D → Bool
  | .non, .non => true | .non, .int _ => true | .int _, .non => true | .non, .bl _ => true | .bl _, .non => true | .non, .str _ => true | .str _, .non => true
  | .int _, .int _ => true | .bl _, .bl _ => true | .str _, .str _ => true
  | .int _, .str _ => true | .str _, .int _ => true | .bl _, .str _ => true | .str _, .bl _ => true
  | _, _ => false
/-- lists of dints as such -/
def dints : List D → Option (List Int)
  | [] => some []
  | .int i :: r => (dints r).map (i :: ·)
  | _ => none
def bls : List D → Option (List Bool)
  | [] => some []
  | .bl i :: r => (bls r).map (i :: ·)
  | _ => none
def dstrs : List D → Option (List Str)
  | [] => some []
  | .str i :: r => (dstrs r).map (i :: ·)
  | _ => none
def lexLt : List Int → List Int → Bool
  | [], [] => false
  | [], _ :: _ => true
  | _ :: _, [] => false
  | x :: xs, y :: ys => if x = y then lexLt xs ys else decide (x < y)
def ceq (a b : D) : Option Bool := if scalD a b || (dp 60 a && dp 60 b) then some (deq a b) else none
def itemsOf : D → Option (List D)
  | .tup xs => some xs
  | .lst xs => some xs
  | .frz xs => some xs
  | _ => none
def lstsOf : D → Option (List D)
  | .lst xs => some xs
  | .frz xs => some xs
  | _ => none
def zipsOf : D → D → Option (List D × List D)
  | .tup xs, .tup ys => some (xs, ys)
  | .lst xs, .lst ys => some (xs, ys)
  | _, _ => none
def cin (a b : D) : Option Bool :=
  match b with
  | .tup xs => if flat a && xs.all flat then some (xs.any fun y => deq y a) else none
  | .lst xs => if flat a && xs.all flat then some (xs.any fun y => deq y a) else none
  | .dic kvs => (match a with
    | .int _ => some (kvs.any fun q => deq q.1 a)
    | .str _ => some (kvs.any fun q => deq q.1 a)
    | _ => none)
  | _ => none
def cmpD (op : Cm) (a b : D) : Option Bool :=
  match op with
  | .eq => ceq a b
  | .ne => (ceq a b).map (!·)
  | .is => (match b with
    | .non => some (match a with | .non => true | _ => false)
    | _ => none)
  | .isn => (match b with
    | .non => some (match a with | .non => false | _ => true)
    | _ => none)
  | .isin => cin a b
  | .notin => (cin a b).map (!·)
  | .lt => (match a, b with
    | .int i, .int j => some (decide (i < j))
    | .tup xs, .tup ys => (match dints xs, dints ys with
      | some is, some js => some (lexLt is js)
      | _, _ => none)
    | _, _ => none)
  | .le => (match a, b with
    | .int i, .int j => some (decide (i ≤ j))
    | _, _ => none)
  | .gt => (match a, b with
    | .int i, .int j => some (decide (j < i))
    | _, _ => none)
  | .ge => (match a, b with
    | .int i, .int j => some (decide (j ≤ i))
    | _, _ => none)
/-- the place that an index of any sign means -/
def ixn (n : Nat) (i : Int) : Option Nat := if 0 ≤ i then (if i < n then some i.toNat else none) else if -(n : Int) ≤ i then some (i + n).toNat else none
def six (n d : Nat) : Option Int → Nat
  | none => d
  | some v => if v < 0 then (v + (n : Int)).toNat else min v.toNat n
def cut (xs : List D) (lo hi : Option Int) : List D := (xs.drop (six xs.length 0 lo)).take (six xs.length xs.length hi - six xs.length 0 lo)
def keyD (a : D) : Bool := match a with | .int _ => true | .str _ => true | _ => false
def dget (kvs : List (D × D)) (k : D) : Option D := (kvs.find? fun q => deq q.1 k).map (·.2)
def dput (kvs : List (D × D)) (k v : D) : List (D × D) := if (kvs.any fun q => deq q.1 k) = true then kvs.map (fun q => if deq q.1 k = true then (q.1, v) else q) else kvs ++ [(k, v)]
def subD (a b : D) : Option D :=
  match a with
  | .tup xs => (match b with | .int i => (ixn xs.length i).bind fun j => xs[j]? | _ => none)
  | .lst xs => (match b with | .int i => (ixn xs.length i).bind fun j => xs[j]? | _ => none)
  | .dic kvs => if keyD b then dget kvs b else none
  | _ => none
def minL : List Int → Option Int
  | [] => none
  | x :: xs => some (xs.foldl min x)
def maxL : List Int → Option Int
  | [] => none
  | x :: xs => some (xs.foldl max x)
def ins (x : Int) : List Int → List Int
  | [] => [x]
  | y :: r => if x ≤ y then x :: y :: r else y :: ins x r
def isort : List Int → List Int
  | [] => []
  | x :: r => ins x (isort r)
def intL (xs : List Int) : List D := xs.map .int
/-- built-in functions, the arguments by values -/
def biD (b : Bi) (as : List D) : Option D :=
  match b, as with
  | .len, [.str x] => if x.length ≤ SZ then some (.int x.length) else none
  | .len, [.tup xs] => some (.int xs.length)
  | .len, [.lst xs] => some (.int xs.length)
  | .len, [.dic xs] => some (.int xs.length)
  | .abs, [.int i] => some (.int (if i < 0 then -i else i))
  | .int, [.int i] => some (.int i)
  | .int, [.bl i] => some (.int (if i then 1 else 0))
  | .list, [.tup xs] => some (.lst xs)
  | .list, [.lst xs] => some (.lst xs)
  | .list, [.frz xs] => some (.lst xs)
  | .tuple, [.tup xs] => some (.tup xs)
  | .tuple, [.lst xs] => some (.tup xs)
  | .all, [.lst xs] => (bls xs).map fun bs => .bl (bs.all id)
  | .any, [.lst xs] => (bls xs).map fun bs => .bl (bs.any id)
  | .sum, [.lst xs] => (dints xs).map fun is => .int is.sum
  | .sorted, [.lst xs] => (dints xs).bind fun is => if is.length < 64 then some (.lst (intL (isort is))) else none
  | .min1, [.lst xs] => ((dints xs).bind minL).map .int
  | .max1, [.lst xs] => ((dints xs).bind maxL).map .int
  | .min2, [.int i, .int j] => some (.int (if j < i then j else i))
  | .max2, [.int i, .int j] => some (.int (if j > i then j else i))
  | .sum, [.tup xs] => (dints xs).map fun is => .int is.sum
  | .isInt, [a] => (match a with | .int _ => some (.bl true) | .bl _ => some (.bl true) | .non => some (.bl false) | .str _ => some (.bl false) | .tup _ => some (.bl false) | .lst _ => some (.bl false) | _ => none)
  | .isBool, [a] => (match a with | .bl _ => some (.bl true) | .int _ => some (.bl false) | .non => some (.bl false) | .str _ => some (.bl false) | .tup _ => some (.bl false) | .lst _ => some (.bl false) | _ => none)
  | .isStr, [a] => (match a with | .str _ => some (.bl true) | .int _ => some (.bl false) | .bl _ => some (.bl false) | .non => some (.bl false) | .tup _ => some (.bl false) | .lst _ => some (.bl false) | _ => none)
  | .isTuple, [a] => (match a with | .tup _ => some (.bl true) | .int _ => some (.bl false) | .bl _ => some (.bl false) | .non => some (.bl false) | .str _ => some (.bl false) | .lst _ => some (.bl false) | _ => none)
  | .isList, [a] => (match a with | .lst _ => some (.bl true) | .int _ => some (.bl false) | .bl _ => some (.bl false) | .non => some (.bl false) | .str _ => some (.bl false) | .tup _ => some (.bl false) | _ => none)
  | _, _ => none
def joinS (a : Str) (ys : List Str) : Str := Str.join a ys
def mtD (m : Mt) (a : D) (as : List D) : Option D :=
  match m, a, as with
  | .join, .str x, [b] => ((itemsOf b).bind dstrs).bind fun ys => if (ys.map (·.length)).sum + ys.length * x.length ≤ SZ then some (.str (joinS x ys)) else none
  | _, _, _ => none
def isContainer : D → Bool
  | .lst _ => true | .dic _ => true | _ => false
def R.ofO {α : Type} : Option α → R α
  | some a => .ok a
  | none => .bad
def getS (σ : Sd) (i : Nat) : R D := match σ[i]? with
  | some (some d) => .ok d
  | _ => .bad
/-- a mutating method: what it gives, what becomes of the object -/
def mmD (m : Mm) (a : D) (as : List D) : Option (D × D) :=
  match m, a, as with
  | .append, .lst xs, [y] => if xs.length < SZ then some (.non, .lst (xs ++ [y])) else none
  | .pop0, .lst xs, [] => (xs[xs.length - 1]?).map fun y => (y, .lst xs.dropLast)
  | .pop1, .lst xs, [.int i] => if -(2 ^ 63) ≤ i ∧ i < 2 ^ 63 then (ixn xs.length i).bind fun k => (xs[k]?).map fun y => (y, .lst (xs.eraseIdx k)) else none
  | _, _, _ => none
def setD (a k v : D) : Option D :=
  match a with
  | .lst xs => (match k with | .int i => (ixn xs.length i).map fun j => .lst (xs.set j v) | _ => none)
  | .dic kvs => if keyD k && decide (kvs.length < SZ) then some (.dic (dput kvs k v)) else none
  | _ => none
mutual
def asg : T → D → Sd → R Sd
  | .var i, d, σ => .ok (σ.set i (some d))
  | .tup ts, d, σ => (match itemsOf d with
    | some xs => if xs.length = ts.length then asgs ts xs σ else .bad
    | none => .bad)
def asgs : List T → List D → Sd → R Sd
  | [], [], σ => .ok σ
  | t :: ts, d :: ds, σ => (asg t d σ).bind fun σ1 => asgs ts ds σ1
  | _, _, _ => .bad
end
def wipeD (σ : Sd) : List Nat → Sd
  | [] => σ
  | v :: vs => (wipeD σ vs).set v none
/-- own slots: those of the first state, all others of the second -/
def back (vs : List Nat) (σ0 σ : Sd) : Sd := match vs with
  | [] => σ
  | v :: vs => (back vs σ0 σ).set v ((σ0[v]?).getD none)
/-- the parameters' ways: by value, lent, changed -/
inductive Md where
  | s | b | m
  deriving DecidableEq
structure Fd where
  ps : List Md
  ns : Nat
  own : List Nat
  bor : List Nat
  fresh : Bool
  body : Ss
  hd : Bool := false
/-- what the evaluation leans on -/
structure Lv where
  tb : List Fd
  own : List Nat
  sub : Nat → Nat → Bool
  F : Fns
  F2 : Option Fns
  Hd : Nat → R D → R D
  th : R D
  hld : Option Nat
  fr : Bool
def putOuts : List Nat → List D → Sd → R Sd
  | [], [], σ => .ok σ
  | i :: is, d :: ds, σ => putOuts is ds (σ.set i (some d))
  | _, _, _ => .bad
def rangeL (lo hi : Int) : List D := (List.range (hi - lo).toNat).map fun (k : Nat) => D.int (lo + k)
def rngOk (i : Int) : Bool := decide (-(2 ^ 62) ≤ i) && decide (i < 2 ^ 62)
def enumL (xs : List D) : List D := (List.range xs.length).zip xs |>.map fun q => D.tup [.int (q.1 : Nat), q.2]
def zipL (xs ys : List D) : List D := (xs.zip ys).map fun q => D.tup [q.1, q.2]

/-- a fold over the items of a comprehension: what one turn does with the slots and the list so far -/
def lcGo (f : D → Sd → R (Option D × Sd)) : List D → Sd → List D → R (List D × Sd)
  | [], σ, acc => .ok (acc, σ)
  | x :: xs, σ, acc => (f x σ).bind fun q => match q.1 with
    | some y => if acc.length < SZ then lcGo f xs q.2 (acc ++ [y]) else .bad
    | none => lcGo f xs q.2 acc

def isStrD : D → Bool
  | .str _ => true
  | _ => false
/-- no error may leave -/
def nox {α : Type} : R α → R α
  | .exc _ => .bad
  | r => r
def isTupD : D → Bool
  | .tup _ => true
  | _ => false
def isLstD : D → Bool
  | .lst _ => true
  | _ => false
/-- lent: a restricted name may be read -/
def lent (e : E) (r : R (D × Sd)) (σ : Sd) : R (D × Sd) := match e with
  | .rv i => (getS σ i).bind fun d => .ok (d, σ)
  | _ => r
/-- a lent name is read as it stands at last -/
def rr (e : E) (d : D) (σ : Sd) : R D := match e with
  | .rv i => getS σ i
  | _ => .ok d
def rrs : Es → List D → Sd → R (List D)
  | .nil, [], _ => .ok []
  | .cons e es, d :: ds, σ => (rr e d σ).bind fun x => (rrs es ds σ).bind fun xs => .ok (x :: xs)
  | _, _, _ => .bad
def isRv : E → Bool
  | .rv _ => true
  | _ => false
/-- the slots that a call's arguments of the way m name -/
def outsOf : List Md → Es → List Nat
  | .m :: ps, .cons (.rv i) es => i :: outsOf ps es
  | _ :: ps, .cons _ es => outsOf ps es
  | _, _ => []
def nodupB : List Nat → Bool
  | [] => true
  | x :: r => !r.contains x && nodupB r
/-- the arguments fit the parameters' ways: ms the slots that the call changes -/
def modesOk (own ms : List Nat) : List Md → Es → Bool
  | [], .nil => true
  | .s :: ps, .cons e es => !isRv e && modesOk own ms ps es
  | .b :: ps, .cons e es => (match e with
    | .rv i => !ms.contains i
    | _ => true) && modesOk own ms ps es
  | .m :: ps, .cons e es => (match e with
    | .rv i => own.contains i
    | _ => false) && modesOk own ms ps es
  | _, _ => false
def plainAs : Es → Bool
  | .nil => true
  | .cons e es => !isRv e && plainAs es
mutual
def ev : E → Lv → Sd → R (D × Sd)
  | .var i, _, σ => (getS σ i).bind fun d => .ok (d, σ)
  | .rv _, _, _ => .bad
  | .cst d, _, σ => .ok (d, σ)
  | .fn f, _, σ => .ok (.fn f, σ)
  | .tup es, l, σ => (evs es l σ).bind fun q => if q.1.length ≤ SZ then .ok (.tup q.1, q.2) else .bad
  | .lst es, l, σ => (evs es l σ).bind fun q => if q.1.length ≤ SZ then .ok (.lst q.1, q.2) else .bad
  | .bin op a b, l, σ => (lent a (ev a l σ) σ).bind fun p => (lent b (ev b l p.2) p.2).bind fun q => (rr a p.1 q.2).bind fun x => (R.ofO (bop op x q.1)).bind fun d => .ok (d, q.2)
  | .neg a, l, σ => (ev a l σ).bind fun p => match p.1 with
    | .int i => .ok (.int (-i), p.2)
    | _ => .bad
  | .not a, l, σ => (lent a (ev a l σ) σ).bind fun p => (R.ofO (tru p.1)).bind fun k => .ok (.bl (!k), p.2)
  | .and a b, l, σ => (ev a l σ).bind fun p => (R.ofO (tru p.1)).bind fun k => if k = true then ev b l p.2 else .ok p
  | .or a b, l, σ => (ev a l σ).bind fun p => (R.ofO (tru p.1)).bind fun k => if k = true then .ok p else ev b l p.2
  | .cmp op a b, l, σ => (lent a (ev a l σ) σ).bind fun p => (lent b (ev b l p.2) p.2).bind fun q => (rr a p.1 q.2).bind fun x => (R.ofO (cmpD op x q.1)).bind fun k => .ok (.bl k, q.2)
  | .chain op op' a b c, l, σ => (lent a (ev a l σ) σ).bind fun p => (ev b l p.2).bind fun q => (rr a p.1 q.2).bind fun x => (R.ofO (cmpD op x q.1)).bind fun k =>
    if k = true then (lent c (ev c l q.2) q.2).bind fun r => (R.ofO (cmpD op' q.1 r.1)).bind fun k' => .ok (.bl k', r.2) else .ok (.bl false, q.2)
  | .ite c a b, l, σ => (lent c (ev c l σ) σ).bind fun p => (R.ofO (tru p.1)).bind fun k => if k = true then ev a l p.2 else ev b l p.2
  | .call f as, l, σ => match l.tb[f]? with
    | none => .bad
    | some fd => if modesOk l.own (outsOf fd.ps as) fd.ps as && nodupB (outsOf fd.ps as) then
        (evbs as l σ).bind fun q => (rrs as q.1 q.2).bind fun ds => (l.F f ds).bind fun r => (putOuts (outsOf fd.ps as) r.2 q.2).bind fun σ' => .ok (r.1, σ')
      else .bad
  | .cal i as, l, σ => (getS σ i).bind fun d => match d with
    | .fn f => (match l.tb[f]? with
      | none => .bad
      | some fd => if modesOk [] (outsOf fd.ps as) fd.ps as && nodupB (outsOf fd.ps as) then
        (evbs as l σ).bind fun q => (rrs as q.1 q.2).bind fun ds => (l.F f ds).bind fun r => (putOuts (outsOf fd.ps as) r.2 q.2).bind fun σ' => .ok (r.1, σ') else .bad)
    | _ => .bad
  | .act _, _, _ => .bad
  | .lam f b, l, σ => match l.F2 with
    | none => .bad
    | some F2 => match ev b { l with own := [], F := F2, F2 := none, Hd := fun _ _ => .bad, th := .bad } σ with
      | .ok q => (l.Hd f (.ok q.1)).bind fun d => .ok (d, σ)
      | .exc c => (l.Hd f (.exc c)).bind fun d => .ok (d, σ)
      | .bad => .bad
  | .bi b as, l, σ => (evbs as l σ).bind fun q => (rrs as q.1 q.2).bind fun ds => (R.ofO (biD b ds)).bind fun d => .ok (d, q.2)
  | .mt m a as, l, σ => (ev a l σ).bind fun p => if isStrD p.1 then (evbs as l p.2).bind fun q => (rrs as q.1 q.2).bind fun ds => (R.ofO (mtD m p.1 ds)).bind fun d => .ok (d, q.2) else .bad
  | .mm m i as, l, σ => (getS σ i).bind fun a0 => if isLstD a0 then (evs as l σ).bind fun q => (getS q.2 i).bind fun a => (R.ofO (mmD m a q.1)).bind fun r => .ok (r.1, q.2.set i (some r.2)) else .bad
  | .sub a b, l, σ => (lent a (ev a l σ) σ).bind fun p => (ev b l p.2).bind fun q => (rr a p.1 q.2).bind fun x => (R.ofO (subD x q.1)).bind fun d => .ok (d, q.2)
  | .sl a lo hi, l, σ => (lent a (ev a l σ) σ).bind fun p => (evo lo l p.2).bind fun q => (evo hi l q.2).bind fun r => (rr a p.1 r.2).bind fun x => match x with
    | .tup xs => .ok (.tup (cut xs q.1 r.1), r.2)
    | .lst xs => .ok (.lst (cut xs q.1 r.1), r.2)
    | _ => .bad
  | .rev a, l, σ => (lent a (ev a l σ) σ).bind fun p => match p.1 with
    | .tup xs => .ok (.tup xs.reverse, p.2)
    | .lst xs => .ok (.lst xs.reverse, p.2)
    | _ => .bad
  | .lc own elt t it c, l, σ => (evi it l σ).bind fun p => if l.hld.isSome && !p.1.all isTupD then .bad else (nox (lcGo (fun x σ => (asg t x (wipeD σ own)).bind fun σ1 => (evc c { l with th := .bad } σ1).bind fun q => if q.1 = true then (ev elt { l with th := .bad } q.2).bind fun r => .ok (some r.1, r.2) else .ok (none, q.2)) p.1 p.2 [])).bind fun q => .ok (.lst q.1, back own σ q.2)
  | .dic ks vs, l, σ => match ks, vs with
    | .nil, .nil => .ok (.dic [], σ)
    | _, _ => .bad
  | .isx _ c, l, σ => match l.hld with
    | some k => .ok (.bl (l.sub k c), σ)
    | none => .bad
  | .bad, _, _ => .bad
def evs : Es → Lv → Sd → R (List D × Sd)
  | .nil, _, σ => .ok ([], σ)
  | .cons e es, l, σ => (ev e l σ).bind fun p => (evs es l p.2).bind fun q => .ok (p.1 :: q.1, q.2)
def evbs : Es → Lv → Sd → R (List D × Sd)
  | .nil, _, σ => .ok ([], σ)
  | .cons e es, l, σ => (lent e (ev e l σ) σ).bind fun p => (evbs es l p.2).bind fun q => .ok (p.1 :: q.1, q.2)
def evo : Eo → Lv → Sd → R (Option Int × Sd)
  | .none, _, σ => .ok (none, σ)
  | .some e, l, σ => (ev e l σ).bind fun p => match p.1 with
    | .int i => .ok (some i, p.2)
    | _ => .bad
def evc : Eo → Lv → Sd → R (Bool × Sd)
  | .none, _, σ => .ok (true, σ)
  | .some e, l, σ => (lent e (ev e l σ) σ).bind fun p => (R.ofO (tru p.1)).bind fun k => .ok (k, p.2)
def evi : I → Lv → Sd → R (List D × Sd)
  | .val e, l, σ => (ev e l σ).bind fun p => (R.ofO (itemsOf p.1)).bind fun xs => .ok (xs, p.2)
  | .lst e, l, σ => (ev e l σ).bind fun p => (R.ofO (lstsOf p.1)).bind fun xs => .ok (xs, p.2)
  | .rng1 a, l, σ => (ev a l σ).bind fun p => match p.1 with
    | .int j => if rngOk j then .ok (rangeL 0 j, p.2) else .bad
    | _ => .bad
  | .rng2 a b, l, σ => (ev a l σ).bind fun p => (ev b l p.2).bind fun q => match p.1, q.1 with
    | .int i, .int j => if rngOk i && rngOk j then .ok (rangeL i j, q.2) else .bad
    | _, _ => .bad
  | .enum a, l, σ => (ev a l σ).bind fun p => (R.ofO (itemsOf p.1)).bind fun xs => .ok (enumL xs, p.2)
  | .zip a b, l, σ => (ev a l σ).bind fun p => (ev b l p.2).bind fun q => (R.ofO (zipsOf p.1 q.1)).bind fun xs => .ok (zipL xs.1 xs.2, q.2)
  | .bad, _, _ => .bad
end

/-! ### statements -/
def forGo (f : D → Sd → R (Fl × Sd)) : List D → Sd → R (Fl × Sd)
  | [], σ => .ok (.nx, σ)
  | x :: xs, σ => (f x σ).bind fun q => match q.1 with
    | .nx => forGo f xs q.2
    | .ct => forGo f xs q.2
    | .br => .ok (.nx, q.2)
    | .rt d => .ok (.rt d, q.2)
/-- a while: c the test, f the body -/
def whGo (c : Sd → R (Bool × Sd)) (f : Sd → R (Fl × Sd)) : Nat → Sd → R (Fl × Sd)
  | 0, _ => .bad
  | n + 1, σ => (c σ).bind fun p => if p.1 = true then (f p.2).bind fun q => (match q.1 with
      | .nx => whGo c f n q.2
      | .ct => whGo c f n q.2
      | .br => .ok (.nx, q.2)
      | .rt d => .ok (.rt d, q.2))
    else .ok (.nx, p.2)
def WF : Nat := 1000000
/-- several names at once; a restricted one takes a container alone -/
def setAll : List (Nat × Bool) → List D → Sd → R Sd
  | [], [], σ => .ok σ
  | i :: is, d :: ds, σ => if i.2 && !isContainer d then .bad else setAll is ds (σ.set i.1 (some d))
  | _, _, _ => .bad
/-- what gives a new list (or a dict) -/
def freshE (fr : Nat → Bool) : E → Bool
  | .lst _ => true
  | .lc .. => true
  | .dic .. => true
  | .bin .. => true
  | .sl .. => true
  | .rev .. => true
  | .bi .list _ => true
  | .bi .sorted _ => true
  | .ite _ a b => freshE fr a && freshE fr b
  | .call f _ => fr f
  | _ => false
def parOk (fr : Nat → Bool) : List (Nat × Bool) → Es → Bool
  | [], .nil => true
  | i :: is, .cons e es => (!i.2 || freshE fr e) && parOk fr is es
  | _, _ => false
def frOf (tb : List Fd) (f : Nat) : Bool := match tb[f]? with
  | some fd => fd.fresh
  | none => false
mutual
def ex : S → Lv → Sd → R (Fl × Sd)
  | .expr e, l, σ => (ev e l σ).bind fun p => .ok (.nx, p.2)
  | .asg t e, l, σ => (ev e l σ).bind fun p => (asg t p.1 p.2).bind fun σ' => .ok (.nx, σ')
  | .asgr i e, l, σ => if freshE (frOf l.tb) e then (ev e l σ).bind fun p => if isContainer p.1 then .ok (.nx, p.2.set i (some p.1)) else .bad else .bad
  | .par is es, l, σ => if parOk (frOf l.tb) is es then (evs es l σ).bind fun p => (setAll is p.1 p.2).bind fun σ' => .ok (.nx, σ')
    else .bad
  | .seti i k e, l, σ => (ev e l σ).bind fun p => (getS p.2 i).bind fun _ => (ev k l p.2).bind fun q => (getS q.2 i).bind fun a => (R.ofO (setD a q.1 p.1)).bind fun b => .ok (.nx, q.2.set i (some b))
  | .ifs c a b, l, σ => (lent c (ev c l σ) σ).bind fun p => (R.ofO (tru p.1)).bind fun k => if k = true then exs a l p.2 else exs b l p.2
  | .for t it b, l, σ => (evi it l σ).bind fun p => forGo (fun x σ => (asg t x σ).bind fun σ1 => exs b l σ1) p.1 p.2
  | .while c b, l, σ => whGo (fun σ => (lent c (ev c l σ) σ).bind fun p => (R.ofO (tru p.1)).bind fun k => .ok (k, p.2)) (fun σ => exs b l σ) WF σ
  | .ret e, l, σ => (ev e l σ).bind fun p => if l.fr && !freshE (frOf l.tb) e && isContainer p.1 then .bad else .ok (.rt p.1, p.2)
  | .retr i, _, σ => (getS σ i).bind fun d => .ok (.rt d, σ)
  | .retN, _, σ => .ok (.rt .non, σ)
  | .raise c, _, _ => .exc c
  | .tryx b c i h, l, σ => if l.hld.isSome then .bad else match exs b l σ with
    | .ok q => .ok q
    | .exc c' => if l.sub c' c then (match exs h { l with hld := some c' } (List.replicate σ.length none) with
        | .ok q => .ok (q.1, match i with
          | some i => q.2.set i none
          | none => q.2)
        | _ => .bad) else .exc c'
    | .bad => .bad
  | .acts, l, σ => l.th.bind fun _ => .ok (.nx, σ)
  | .pass, _, σ => .ok (.nx, σ)
  | .cont, _, σ => .ok (.ct, σ)
  | .brk, _, σ => .ok (.br, σ)
  | .bad, _, _ => .bad
def exs : Ss → Lv → Sd → R (Fl × Sd)
  | .nil, _, σ => .ok (.nx, σ)
  | .cons s ss, l, σ => (ex s l σ).bind fun q => match q.1 with
    | .nx => exs ss l q.2
    | f => .ok (f, q.2)
end
/-! ### functions -/
def start (fd : Fd) (as : List D) : Sd := as.map some ++ List.replicate (fd.ns - as.length) none
def mSlots : List Md → Nat → List Nat
  | [], _ => []
  | .m :: ps, i => i :: mSlots ps (i + 1)
  | _ :: ps, i => mSlots ps (i + 1)
def getAll (σ : Sd) : List Nat → R (List D)
  | [] => .ok []
  | i :: is => (getS σ i).bind fun d => (getAll σ is).bind fun ds => .ok (d :: ds)
def finish (fd : Fd) (r : R (Fl × Sd)) : R (D × List D) := r.bind fun q => (match q.1 with
    | .rt d => R.ok d
    | .nx => R.ok .non
    | _ => R.bad).bind fun d => (getAll q.2 (mSlots fd.ps 0)).bind fun ds => .ok (d, ds)
def runFd (tb : List Fd) (sub : Nat → Nat → Bool) (F : Fns) (F2 : Option Fns) (Hd : Nat → R D → R D) (th : R D) (f : Nat) (as : List D) : R (D × List D) :=
  match tb[f]? with
  | none => .bad
  | some fd => if as.length = fd.ps.length then finish fd (exs fd.body ⟨tb, fd.own, sub, F, F2, Hd, th, none, fd.fresh⟩ (start fd as)) else .bad
/-- a def that calls what it got -/
def runHd (tb : List Fd) (sub : Nat → Nat → Bool) (f : Nat) (r : R D) : R D :=
  match tb[f]? with
  | none => .bad
  | some fd => if fd.ps = [.b] ∧ fd.hd = true then (finish fd (exs fd.body ⟨tb, fd.own, sub, fun _ _ => .bad, none, fun _ _ => .bad, r, none, fd.fresh⟩ (List.replicate fd.ns none))).bind fun q => .ok q.1 else .bad
/-- three levels -/
def Ts (tb : List Fd) (sub : Nat → Nat → Bool) : Nat → Fns × Option Fns × Option Fns
  | 0 => (fun _ _ => .bad, none, none)
  | n + 1 => (runFd tb sub (Ts tb sub n).1 (Ts tb sub n).2.2 (runHd tb sub) .bad, some (Ts tb sub n).1, (Ts tb sub n).2.1)
def Fs (tb : List Fd) (sub : Nat → Nat → Bool) (n : Nat) : Fns := (Ts tb sub n).1
end BF

/-! Tr -/
set_option linter.all false
set_option maxRecDepth 100000
/-! From the text to the small form. -/
namespace BF
open PySem

structure Tc where
  N : List Str
  own : List Nat
  bor : List Nat
  np : Nat
  fns : List Str
  con : List (Str × D)
  excs : List Str
  sc : Scope
  hld : Option Nat
  hx : Bool
  lm : Bool

def slotGo (x : Str) : List Str → Nat → Option Nat
  | [], _ => none
  | y :: r, i => if y = x then some i else slotGo x r (i + 1)
def Tc.slot (c : Tc) (x : Str) : Option Nat := slotGo x c.N 0
def Tc.res (c : Tc) (i : Nat) : Bool := c.own.contains i || c.bor.contains i || c.hld == some i
def Tc.glob (c : Tc) (x : Str) : Bool := match c.sc.names.lookup x with
  | some .globalImplicit => true
  | _ => false
def Tc.vis (c : Tc) (x : Str) : Bool := match c.sc.names.lookup x with
  | some .local => true
  | some .cell => true
  | some .free => true
  | _ => false
def okNm (x : Str) : Bool := !(x == ("__debug__" : Str)) && !(x == ("__classdict__" : Str))
def trName (c : Tc) (x : Str) : E :=
  if okNm x then
    if c.vis x then (match c.slot x with
      | some i => if c.hld = some i then .bad else if c.res i then .rv i else .var i
      | none => .bad)
    else if c.glob x then (match slotGo x c.fns 0 with
      | some f => .fn f
      | none => (match c.con.lookup x with
        | some d => .cst d
        | none => .bad))
    else .bad
  else .bad
def op2 : Operator → Option Op2
  | .Add => some .add | .Sub => some .sub | .Mult => some .mul | .FloorDiv => some .fdiv | .Mod => some .mod | .Pow => some .pow
  | .LShift => some .shl | .RShift => some .shr | .BitAnd => some .band | .BitOr => some .bor | .BitXor => some .bxor
  | _ => none
def cm : CmpOp → Cm
  | .Eq => .eq | .NotEq => .ne | .Lt => .lt | .LtE => .le | .Gt => .gt | .GtE => .ge | .Is => .is | .IsNot => .isn | .In => .isin | .NotIn => .notin
/-- built-in functions of one argument -/
def bi1 (f : Str) : Option Bi :=
  if f = ("len" : Str) then some .len else if f = ("abs" : Str) then some .abs else if f = ("int" : Str) then some .int
  else if f = ("list" : Str) then some .list else if f = ("tuple" : Str) then some .tuple else if f = ("all" : Str) then some .all else if f = ("any" : Str) then some .any
  else if f = ("sum" : Str) then some .sum else if f = ("sorted" : Str) then some .sorted else if f = ("min" : Str) then some .min1 else if f = ("max" : Str) then some .max1
  else none
def bi2 (f : Str) : Option Bi := if f = ("min" : Str) then some .min2 else if f = ("max" : Str) then some .max2 else none
def isT (f : Str) : Option Bi :=
  if f = ("int" : Str) then some .isInt else if f = ("bool" : Str) then some .isBool else if f = ("str" : Str) then some .isStr
  else if f = ("tuple" : Str) then some .isTuple else if f = ("list" : Str) then some .isList else none
mutual
def trT : Nat → Tc → Expr → Option T
  | 0, _, _ => none
  | n + 1, c, e => match e with
    | .Name x _ => if okNm x && (c.sc.names.lookup x = some .local || c.sc.names.lookup x = some .cell) then (match c.slot x with
      | some i => if c.res i then none else some (.var i)
      | none => none) else none
    | .Tuple es _ _ => (trTs n c es).map .tup
    | _ => none
def trTs : Nat → Tc → List Expr → Option (List T)
  | 0, _, _ => none
  | _ + 1, _, [] => some []
  | n + 1, c, e :: es => match trT n c e, trTs n c es with
    | some t, some ts => some (t :: ts)
    | _, _ => none
end
mutual
def slotsT : T → List Nat
  | .var i => [i]
  | .tup ts => slotsTs ts
def slotsTs : List T → List Nat
  | [] => []
  | t :: ts => slotsT t ++ slotsTs ts
end
/-- the block's own names with their places -/
def ownOf (N : List Str) : List (Str × NameKind) → List (Str × Nat)
  | [] => []
  | (x, k) :: r => (match k with
    | .local => (match slotGo x N 0 with | some i => (x, i) :: ownOf N r | none => ownOf N r)
    | .cell => (match slotGo x N 0 with | some i => (x, i) :: ownOf N r | none => ownOf N r)
    | _ => ownOf N r)
def noArgs : Arguments → Bool
  | ⟨[], [], none, [], [], none, []⟩ => true
  | _ => false
def noStarT : Expr → Bool
  | .Starred .. => false
  | _ => true
def notLcT : Expr → Bool
  | .ListComp .. => false
  | .SetComp .. => false
  | .DictComp .. => false
  | _ => true
def isVarT : T → Bool
  | .var _ => true
  | _ => false
def flatT : T → Bool
  | .var _ => true
  | .tup ts => ts.all isVarT
/-- the iterator gives what the target takes -/
def fitI (hot : Bool) : I → T → Bool
  | .val _, _ => !hot
  | .lst _, t => flatT t
  | .rng1 _, _ => !hot
  | .rng2 _ _, _ => !hot
  | .enum _, .tup _ => !hot
  | .zip _ _, .tup _ => !hot
  | _, _ => false
def notSet : Expr → Bool
  | .Set .. => false
  | _ => true
def notSl : Expr → Bool
  | .Slice .. => false
  | _ => true

/-- f(..), f a built-in function or isinstance -/
def mkBlt (c : Tc) (x : Str) (as : List Expr) (g : Expr → E) (gs : List Expr → Es) : E :=
  match as with
  | [a] => if c.hld.isSome then .bad else (match bi1 x with
    | some b => .bi b (gs [a])
    | none => .bad)
  | [a, b] => if x = ("isinstance" : Str) then
      (match b with
      | .Name y _ => if okNm y && c.glob y then (match slotGo y c.excs 0 with
          | some k => (match a with
            | .Name z _ => if okNm z && c.vis z then (match c.slot z with
              | some i => if c.hld = some i && c.hx then .isx i k else .bad
              | none => .bad) else .bad
            | _ => .bad)
          | none => (match isT y with
            | some t => .bi t (.cons (g a) .nil)
            | none => .bad)) else .bad
      | _ => .bad)
    else if c.hld.isSome then .bad else (match bi2 x with
    | some o => .bi o (gs [a, b])
    | none => .bad)
  | _ => .bad
def isLam : List Expr → Option (Arguments × Expr × Scope)
  | [.Lambda ps b sc _] => some (ps, b, sc)
  | _ => none
def mkCall (c : Tc) (x : Str) (as : List Expr) (g : Expr → E) (gs : List Expr → Es) (gl : Scope → Expr → E) : E :=
  if okNm x && as.all noStarT then
    if c.vis x then (match c.slot x with
      | some i => if c.res i || c.hld.isSome then .bad else (match as with
        | [] => .act i
        | a :: r => .cal i (gs (a :: r)))
      | none => .bad)
    else if c.glob x then (match slotGo x c.fns 0 with
      | some f => if c.hld.isSome then .bad else (match isLam as with
        | some (ps, b, sc) => if c.lm && noArgs ps && LamX.lamSB c.sc sc then .lam f (gl sc b) else .bad
        | none => .call f (gs as))
      | none => mkBlt c x as g gs)
    else .bad
  else .bad
def mkMeth (c : Tc) (o : Expr) (m : Str) (as : List Expr) (g : Expr → E) : E :=
  if as.all noStarT then
    if m = ("append" : Str) then (match o with
      | .Name x _ => if okNm x && c.vis x then (match c.slot x with
        | some i => if c.own.contains i then (match as with
          | [a] => .mm .append i (.cons (g a) .nil)
          | _ => .bad) else .bad
        | none => .bad) else .bad
      | _ => .bad)
    else if m = ("pop" : Str) then (match o with
      | .Name x _ => if okNm x && c.vis x then (match c.slot x with
        | some i => if c.own.contains i then (match as with
          | [] => .mm .pop0 i .nil
          | [a] => .mm .pop1 i (.cons (g a) .nil)
          | _ => .bad) else .bad
        | none => .bad) else .bad
      | _ => .bad)
    else if m = ("join" : Str) then (match o with
      | .Constant k j p => (match as with
        | [a] => .mt .join (g (.Constant k j p)) (.cons (g a) .nil)
        | _ => .bad)
      | _ => .bad)
    else .bad
  else .bad
def mkR (as : List Expr) (g : Expr → E) : I := match as with
  | [a] => .rng1 (g a)
  | [a, b] => .rng2 (g a) (g b)
  | _ => .bad
def mkN (as : List Expr) (g : Expr → E) : I := match as with
  | [a] => .enum (g a)
  | _ => .bad
def mkZ (as : List Expr) (g : Expr → E) : I := match as with
  | [a, b] => .zip (g a) (g b)
  | _ => .bad
def mkI (c : Tc) (e : Expr) (g : Expr → E) : I := match e with
  | .Call (.Name x _) as [] _ => if as.all noStarT then
      if x = ("range" : Str) && c.glob x then mkR as g
      else if x = ("enumerate" : Str) && c.glob x then mkN as g
      else if x = ("zip" : Str) && c.glob x then mkZ as g
      else .val (g e)
    else .bad
  | e => if c.hld.isSome then .lst (g e) else .val (g e)
/-- [elt for t in it if ..] -/
def mkLc (c : Tc) (gs : List Comprehension) (scope : Scope) (gt : Tc → Expr → Option T) (ge : Tc → E) (gi : Expr → I) (gc : Tc → Expr → E) : E := match gs with
  | [⟨t, it, ifs, a⟩] =>
    if a = 0 && notSet it && (c.hld.isNone || c.hx) && L2.blkC c.N c.sc scope (ownOf c.N scope.names) then
      (match gt { c with sc := L2.relS scope c.sc, hx := false } t with
      | some tt => if (slotsT tt).all (fun i => ((ownOf c.N scope.names).map (·.2)).contains i) && ((ownOf c.N scope.names).map (·.2)).all (fun i => !c.res i) && fitI c.hld.isSome (gi it) tt then
          (match ifs with
          | [] => .lc ((ownOf c.N scope.names).map (·.2)) (ge { c with sc := L2.relS scope c.sc, hx := false }) tt (gi it) .none
          | [i] => .lc ((ownOf c.N scope.names).map (·.2)) (ge { c with sc := L2.relS scope c.sc, hx := false }) tt (gi it) (.some (gc { c with sc := L2.relS scope c.sc, hx := false } i))
          | _ => .bad)
        else .bad
      | none => .bad)
    else .bad
  | _ => .bad
/-- the slice [::-1] -/
def isBack (lo hi : Option Expr) (e : Expr) : Bool := match lo, hi, e with
  | none, none, .UnaryOp .USub (.Constant (.int 1) _ _) _ => true
  | _, _, _ => false
mutual
def tr : Nat → Tc → Expr → E
  | 0, _, _ => .bad
  | n + 1, c, e => match e with
    | .Constant k _ _ => (match k with
      | .none => .cst .non
      | .bool b => .cst (.bl b)
      | .int i => .cst (.int i)
      | .str s => .cst (.str s)
      | _ => .bad)
    | .Name x _ => trName c x
    | .Tuple es _ _ => .tup (trs n c es)
    | .List es _ => .lst (trs n c es)
    | .BinOp a op b _ => (match op2 op with
      | some o => .bin o (tr n c a) (tr n c b)
      | none => .bad)
    | .UnaryOp op a _ => (match op with
      | .Not => .not (tr n c a)
      | .USub => .neg (tr n c a)
      | _ => .bad)
    | .BoolOp op vs _ => trB n c op vs
    | .Compare a ops bs _ => (match ops, bs with
      | [op], [b] => if notSet b then .cmp (cm op) (tr n c a) (tr n c b) else .bad
      | [op, op'], [b, d] => if notSet d then .chain (cm op) (cm op') (tr n c a) (tr n c b) (tr n c d) else .bad
      | _, _ => .bad)
    | .IfExp t a b _ => .ite (tr n c t) (tr n c a) (tr n c b)
    | .Subscript a s _ => (match s with
      | .Slice lo hi st _ => (match st with
        | none => .sl (tr n c a) (trO n c lo) (trO n c hi)
        | some e => if isBack lo hi e then .rev (tr n c a) else .bad)
      | s => .sub (tr n c a) (tr n c s))
    | .Dict ks vs _ => (match ks, vs with
      | [], [] => .dic .nil .nil
      | _, _ => .bad)
    | .ListComp elt gs scope _ => mkLc c gs scope (trT n) (fun c' => tr n c' elt) (trI n c) (fun c' i => tr n c' i)
    | .Call f as ks p => (match ks with
      | [] => (match f with
        | .Name x _ => trCall n c x as
        | .Attribute o m ap => if ap.endLine == p.line then trMeth n c o m as else .bad
        | _ => .bad)
      | _ => .bad)
    | _ => .bad
def trs : Nat → Tc → List Expr → Es
  | 0, _, _ => .cons .bad .nil
  | _ + 1, _, [] => .nil
  | n + 1, c, e :: es => .cons (tr n c e) (trs n c es)
def trO : Nat → Tc → Option Expr → Eo
  | 0, _, _ => .some .bad
  | _ + 1, _, none => .none
  | n + 1, c, some e => .some (tr n c e)
def trB : Nat → Tc → BoolOp → List Expr → E
  | 0, _, _, _ => .bad
  | n + 1, c, op, vs => match vs with
    | [] => .bad
    | [a] => tr n c a
    | a :: b :: r => (match op with
      | .And => .and (tr n c a) (trB n c .And (b :: r))
      | .Or => .or (tr n c a) (trB n c .Or (b :: r)))
def trCall : Nat → Tc → Str → List Expr → E
  | 0, _, _, _ => .bad
  | n + 1, c, x, as => mkCall c x as (tr n c) (trs n c) (fun sc b => tr n { c with sc := sc, own := [], bor := c.own ++ c.bor, hld := none, hx := false, lm := false } b)
def trMeth : Nat → Tc → Expr → Str → List Expr → E
  | 0, _, _, _, _ => .bad
  | n + 1, c, o, m, as => mkMeth c o m as (tr n c)
def trI : Nat → Tc → Expr → I
  | 0, _, _ => .bad
  | n + 1, c, e => mkI c e (tr n c)
end
/-- what the stores of a, b = x, y are: none: not told; some none: by a tuple -/
def swapM (sc : Scope) (ts vs : List Expr) : Option (Option (List Str)) :=
  if !(ts.length == 2 || ts.length == 3) || vs.length != ts.length then some none
  else if vs.any fun | .Starred .. => true | _ => false then some none
  else
    let ln := ((ts.head?).map fun t => t.pos.line).getD 0
    let names := ts.filterMap fun
      | .Name id pos => if sc.names.lookup id == some .local && pos.line == ln then some id else none
      | _ => none
    if names.length != ts.length || names.eraseDups.length != names.length then some none
    else if vs.all (foldedForSure 8) then some none
    else if vs.all (constantsAlone 8) then none
    else some (some names)
/-- a plain place for a name that is the def's own -/
def plcOf (c : Tc) (x : Str) : Option Nat := if okNm x && decide (c.sc.names.lookup x = some .local) then (match c.slot x with
  | some i => if c.res i then none else some i
  | none => none) else none
def mkNm (c : Tc) (x : Str) (v : Expr) (g : Expr → E) : S :=
  if okNm x && (decide (c.sc.names.lookup x = some .local) || decide (c.sc.names.lookup x = some .cell)) && (notLcT v || c.hld.isNone) then (match c.slot x with
    | some i => if c.hld == some i then .bad else if c.own.contains i then (if decide (c.np ≤ i) then .asgr i (g v) else .bad) else if c.res i then .bad else .asg (.var i) (g v)
    | none => .bad)
  else .bad
def mkSub (c : Tc) (o k v : Expr) (g : Expr → E) : S := match o with
  | .Name x _ => if okNm x && c.vis x && notSl k && notLcT v then (match c.slot x with
    | some i => if c.own.contains i then .seti i (g k) (g v) else .bad
    | none => .bad) else .bad
  | _ => .bad
/-- a place: plain, or one's own -/
def plcF (c : Tc) (x : Str) : Option (Nat × Bool) := match plcOf c x with
  | some i => some (i, false)
  | none => if okNm x && decide (c.sc.names.lookup x = some .local) then (match c.slot x with
    | some i => if c.own.contains i && decide (c.np ≤ i) && !(c.hld == some i) then some (i, true) else none
    | none => none) else none
def mkPar (c : Tc) (es : List Expr) (ns : List Str) (vs : List Expr) (gs : List Expr → Es) : S := match es with
  | [.Name x _, .Name y _] => (match vs with
    | [a, b] => if ns = [x, y] then (match plcF c x, plcF c y with
      | some i, some j => if i.1 = j.1 then .bad else .par [i, j] (gs [a, b])
      | _, _ => .bad) else .bad
    | _ => .bad)
  | [.Name x _, .Name y _, .Name z _] => (match vs with
    | [a, b, d] => if ns = [x, y, z] then (match plcF c x, plcF c y, plcF c z with
      | some i, some j, some m => if i.1 = j.1 || i.1 = m.1 || j.1 = m.1 then .bad else .par [i, j, m] (gs [a, b, d])
      | _, _, _ => .bad) else .bad
    | _ => .bad)
  | _ => .bad
/-- a place by any road -/
def plcN (c : Tc) : Expr → Option (Nat × Bool)
  | .Name x _ => if okNm x && (decide (c.sc.names.lookup x = some .local) || decide (c.sc.names.lookup x = some .cell)) then (match c.slot x with
    | some i => if c.hld == some i then none else if c.own.contains i then (if decide (c.np ≤ i) then some (i, true) else none) else if c.res i then none else some (i, false)
    | none => none) else none
  | _ => none
def plcNs (c : Tc) : List Expr → Option (List (Nat × Bool))
  | [] => some []
  | e :: es => match plcN c e, plcNs c es with
    | some i, some is => some (i :: is)
    | _, _ => none
/-- .. by a tuple that is taken apart -/
def mkParN (c : Tc) (es vs : List Expr) (gs : List Expr → Es) : S := match plcNs c es with
  | some is => if decide (es.length = vs.length) && decide (es.length ≤ 60) then .par is (gs vs) else .bad
  | none => .bad
def isTup : Expr → Option (List Expr)
  | .Tuple vs _ _ => some vs
  | _ => none
def mkTup (c : Tc) (es : List Expr) (t v : Expr) (g : Expr → E) (gs : List Expr → Es) (gt : Expr → Option T) : S :=
  if c.hld.isSome || !notLcT v then .bad else
  match isTup v with
  | some vs => (match swapM c.sc es vs with
    | none => .bad
    | some none => (match gt t with
      | some tt => .asg tt (g v)
      | none => mkParN c es vs gs)
    | some (some ns) => mkPar c es ns vs gs)
  | none => (match gt t with
    | some tt => .asg tt (g v)
    | none => .bad)
def mkAsg (c : Tc) (ts : List Expr) (v : Expr) (g : Expr → E) (gs : List Expr → Es) (gt : Expr → Option T) : S := match ts with
  | [.Name x _] => mkNm c x v g
  | [.Subscript o k _] => mkSub c o k v g
  | [.Tuple es k p] => mkTup c es (.Tuple es k p) v g gs gt
  | _ => .bad
/-- the call of what the def got -/
def isAct (c : Tc) : Expr → Bool
  | .Call (.Name x _) [] [] _ => okNm x && c.vis x && decide (c.slot x = some 0) && c.bor.contains 0 && !c.hld.isSome
  | _ => false
def mkExpr (c : Tc) (e : Expr) (g : Expr → E) : S := if isAct c e then .acts else if notLcT e then .expr (g e) else .bad
def mkRet (c : Tc) (e : Expr) (g : Expr → E) : S := match e with
  | .Name x p => if okNm x && c.vis x then (match c.slot x with
    | some i => if c.own.contains i && decide (c.np ≤ i) then .retr i else .ret (g (.Name x p))
    | none => .bad) else .ret (g (.Name x p))
  | e => .ret (g e)
def mkFor (c : Tc) (t it : Expr) (b : Ss) (gi : Expr → I) (gt : Expr → Option T) : S :=
  if notSet it && !c.hld.isSome then (match gt t with
    | some tt => if fitI false (gi it) tt then .for tt (gi it) b else .bad
    | none => .bad) else .bad
def mkRaise (c : Tc) (e : Expr) : S := if c.hld.isSome then .bad else match e with
  | .Call (.Name x _) [.Constant (.str _) _ _] [] _ => if okNm x && c.glob x then (match slotGo x c.excs 0 with
    | some k => .raise k
    | none => .bad) else .bad
  | _ => .bad
def mkTry (c : Tc) (b : Ss) (hs : List ExceptHandler) (gh : Tc → List Stmt → Ss) : S := match hs with
  | [.ExceptHandler (some (.Name x _)) (some y) (h0 :: h) _] => if okNm x && c.glob x && c.hld.isNone && decide (c.sc.names.lookup y = some .local) then (match slotGo x c.excs 0 with
    | some k => (match c.slot y with
      | some i => if c.res i then .bad else .tryx b k (some i) (gh { c with hld := some i, hx := true } (h0 :: h))
      | none => .bad)
    | none => .bad) else .bad
  | _ => .bad
mutual
def trS : Nat → Tc → Stmt → S
  | 0, _, _ => .bad
  | n + 1, c, s => match s with
    | .Expr e _ => mkExpr c e (tr n c)
    | .Pass _ => .pass
    | .Continue _ => .cont
    | .Break _ => .brk
    | .Return v _ => (match v with
      | none => .retN
      | some e => mkRet c e (tr n c))
    | .If t a b _ => .ifs (tr n c t) (trSs n c a) (trSs n c b)
    | .For t it b o _ => if o.isEmpty then mkFor c t it (trSs n c b) (trI n c) (trT n c) else .bad
    | .While t b o _ => if o.isEmpty && !c.hld.isSome then .while (tr n c t) (trSs n c b) else .bad
    | .Raise e k _ => (match k with
      | none => (match e with
        | some e => mkRaise c e
        | none => .bad)
      | some _ => .bad)
    | .Try b hs o f _ => if o.isEmpty && f.isEmpty then mkTry c (trSs n c b) hs (fun c' h => trSs n c' h) else .bad
    | .Assign ts v _ => mkAsg c ts v (tr n c) (trs n c) (trT n c)
    | _ => .bad
def trSs : Nat → Tc → List Stmt → Ss
  | 0, _, _ => .cons .bad .nil
  | _ + 1, _, [] => .nil
  | n + 1, c, s :: ss => .cons (trS n c s) (trSs n c ss)
end
def trFd (fns : List Str) (con : List (Str × D)) (excs : List Str) (lm : Bool) (N : List Str) (fd : Fd) (body : List Stmt) (sc : Scope) : Ss :=
  trSs 100 ⟨N, fd.own, fd.bor, fd.ps.length, fns, con, excs, sc, none, false, lm⟩ body
end BF

/-! Rel -/
set_option Elab.async false
set_option linter.all false
set_option maxRecDepth 100000
set_option maxHeartbeats 2000000
namespace BF
open PySem L2

/-- what the relation leans on: the written part, where the defs and the classes stand, the tables of code objects -/
structure Wd where
  K : PySem.W.Frag
  fad : Nat → Addr
  cad : Nat → Addr
  T : List (Addr × Str)
  tb : List Fd
  sub : Nat → Nat → Bool

def KeyR : D → Key → Prop
  | .int i, k => k = .inl i
  | .str x, k => k = .inr x
  | _, _ => False

mutual
inductive Rep (Z : Wd) (H : Hp) : D → V → Prop
  | non : Rep Z H .non .non
  | bl (b : Bool) : Rep Z H (.bl b) (.bl b)
  | int (i : Int) : Rep Z H (.int i) (.int i)
  | str (x : Str) : Rep Z H (.str x) (.str x)
  | tup {a : Addr} {vs : List V} {xs : List D} : SqT Z.K H a vs → Reps Z H xs vs → Rep Z H (.tup xs) (.ref a)
  | lst {a : Addr} {vs : List V} {xs : List D} : H a = some (.lst vs) → Reps Z H xs vs → Rep Z H (.lst xs) (.ref a)
  | frz {a : Addr} {vs : List V} {xs : List D} : SqL Z.K H a vs → Reps Z H xs vs → Rep Z H (.frz xs) (.ref a)
  | dic {a : Addr} {ks : List (Key × V)} {kvs : List (D × D)} : H a = some (.dK ks) → RepK Z H kvs ks → Rep Z H (.dic kvs) (.ref a)
  | fn (f : Nat) : Rep Z H (.fn f) (.ref (Z.fad f))
inductive Reps (Z : Wd) (H : Hp) : List D → List V → Prop
  | nil : Reps Z H [] []
  | cons {d : D} {v : V} {ds : List D} {vs : List V} : Rep Z H d v → Reps Z H ds vs → Reps Z H (d :: ds) (v :: vs)
inductive RepK (Z : Wd) (H : Hp) : List (D × D) → List (Key × V) → Prop
  | nil : RepK Z H [] []
  | cons {k d : D} {q : Key} {v : V} {ds : List (D × D)} {vs : List (Key × V)} : KeyR k q → Rep Z H d v → RepK Z H ds vs → RepK Z H ((k, d) :: ds) ((q, v) :: vs)
end

/-- more stands there -/
def Le (H H' : Hp) : Prop := ∀ a o, H a = some o → H' a = some o
theorem Le.refl (H : Hp) : Le H H := fun _ _ h => h
theorem Le.trans {A B C : Hp} (h : Le A B) (k : Le B C) : Le A C := fun a o e => k a o (h a o e)
theorem Le.rd {H H' : Hp} (h : Le H H') {a : Addr} {u : HO} (r : Rd H a u) : Rd H' a u := by
  rcases r with r | ⟨o, r⟩
  · exact .inl (h _ _ r)
  · exact .inr ⟨o, h _ _ r⟩
theorem Le.sqT {K : PySem.W.Frag} {H H' : Hp} (h : Le H H') {a : Addr} {xs : List V} (s : SqT K H a xs) : SqT K H' a xs := by
  rcases s with r | r
  · exact .inl (h.rd r)
  · exact .inr r
theorem Le.sqL {K : PySem.W.Frag} {H H' : Hp} (h : Le H H') {a : Addr} {xs : List V} (s : SqL K H a xs) : SqL K H' a xs := by
  rcases s with r | r
  · exact .inl (h.rd r)
  · exact .inr r
mutual
theorem Rep.le {Z : Wd} {H H' : Hp} (h : Le H H') : ∀ {d : D} {v : V}, Rep Z H d v → Rep Z H' d v
  | _, _, .non => .non
  | _, _, .bl b => .bl b
  | _, _, .int b => .int b
  | _, _, .str b => .str b
  | _, _, .tup s r => .tup (h.sqT s) (Reps.le h r)
  | _, _, .lst s r => .lst (h _ _ s) (Reps.le h r)
  | _, _, .frz s r => .frz (h.sqL s) (Reps.le h r)
  | _, _, .dic s r => .dic (h _ _ s) (RepK.le h r)
  | _, _, .fn f => .fn f
theorem Reps.le {Z : Wd} {H H' : Hp} (h : Le H H') : ∀ {d : List D} {v : List V}, Reps Z H d v → Reps Z H' d v
  | _, _, .nil => .nil
  | _, _, .cons a b => .cons (Rep.le h a) (Reps.le h b)
theorem RepK.le {Z : Wd} {H H' : Hp} (h : Le H H') : ∀ {d : List (D × D)} {v : List (Key × V)}, RepK Z H d v → RepK Z H' d v
  | _, _, .nil => .nil
  | _, _, .cons k a b => .cons k (Rep.le h a) (RepK.le h b)
end
theorem Reps.length {Z : Wd} {H : Hp} : ∀ {d : List D} {v : List V}, Reps Z H d v → d.length = v.length
  | _, _, .nil => rfl
  | _, _, .cons _ b => by simp [Reps.length b]
theorem Reps.append {Z : Wd} {H : Hp} : ∀ {d e : List D} {v w : List V}, Reps Z H d v → Reps Z H e w → Reps Z H (d ++ e) (v ++ w)
  | _, _, _, _, .nil, r => r
  | _, _, _, _, .cons a b, r => .cons a (Reps.append b r)
theorem Reps.get {Z : Wd} {H : Hp} : ∀ {d : List D} {v : List V} {i : Nat} {x : D}, Reps Z H d v → d[i]? = some x → ∃ y, v[i]? = some y ∧ Rep Z H x y
  | _, _, _, _, .nil, e => by simp at e
  | _, _, 0, _, .cons a _, e => by simp at e; subst e; exact ⟨_, rfl, a⟩
  | _, _, i + 1, x, .cons _ b, e => by
    obtain ⟨y, h1, h2⟩ := Reps.get (i := i) (x := x) b (by simpa using e)
    exact ⟨y, by simpa using h1, h2⟩
theorem Reps.getV {Z : Wd} {H : Hp} : ∀ {d : List D} {v : List V} {i : Nat} {y : V}, Reps Z H d v → v[i]? = some y → ∃ x, d[i]? = some x ∧ Rep Z H x y
  | _, _, _, _, .nil, e => by simp at e
  | _, _, 0, _, .cons a _, e => by simp at e; subst e; exact ⟨_, rfl, a⟩
  | _, _, i + 1, x, .cons _ b, e => by
    obtain ⟨y, h1, h2⟩ := Reps.getV (i := i) (y := x) b (by simpa using e)
    exact ⟨y, by simpa using h1, h2⟩
theorem Reps.set {Z : Wd} {H : Hp} {x : D} {y : V} (r : Rep Z H x y) : ∀ {d : List D} {v : List V} (i : Nat), Reps Z H d v → Reps Z H (d.set i x) (v.set i y)
  | _, _, _, .nil => .nil
  | _, _, 0, .cons _ b => .cons r b
  | _, _, i + 1, .cons a b => .cons a (Reps.set r i b)
theorem Reps.take {Z : Wd} {H : Hp} : ∀ {d : List D} {v : List V} (n : Nat), Reps Z H d v → Reps Z H (d.take n) (v.take n)
  | _, _, 0, _ => .nil
  | _, _, _ + 1, .nil => .nil
  | _, _, n + 1, .cons a b => .cons a (Reps.take n b)
theorem Reps.drop {Z : Wd} {H : Hp} : ∀ {d : List D} {v : List V} (n : Nat), Reps Z H d v → Reps Z H (d.drop n) (v.drop n)
  | _, _, 0, r => r
  | _, _, _ + 1, .nil => .nil
  | _, _, n + 1, .cons a b => Reps.drop n b
theorem Reps.rev {Z : Wd} {H : Hp} : ∀ {d : List D} {v : List V}, Reps Z H d v → Reps Z H d.reverse v.reverse
  | _, _, .nil => .nil
  | _, _, .cons a b => by rw [List.reverse_cons, List.reverse_cons]; exact (Reps.rev b).append (.cons a .nil)
theorem Reps.erase {Z : Wd} {H : Hp} : ∀ {d : List D} {v : List V} (n : Nat), Reps Z H d v → Reps Z H (d.eraseIdx n) (v.eraseIdx n)
  | _, _, _, .nil => .nil
  | _, _, 0, .cons a b => b
  | _, _, n + 1, .cons a b => .cons a (Reps.erase n b)
theorem Reps.rep {Z : Wd} {H : Hp} {d : List D} {v : List V} (r : Reps Z H d v) : ∀ k : Nat, Reps Z H (List.replicate k d).flatten (List.replicate k v).flatten
  | 0 => .nil
  | k + 1 => by rw [List.replicate_succ, List.replicate_succ, List.flatten_cons, List.flatten_cons]; exact r.append (Reps.rep r k)

/-! ### what is hidden -/
/-- no table of code objects -/
def NT (o : HO) : Prop := ∀ ps, o ≠ .tbl ps
theorem nt_lst {xs : List V} : NT (.lst xs) := fun _ h => nomatch h
theorem nt_tup {xs : List V} : NT (.tup xs) := fun _ h => nomatch h
theorem nt_dK {xs : List (Key × V)} : NT (.dK xs) := fun _ h => nomatch h
noncomputable def hide (H : Hp) (O : Addr → Prop) : Hp := fun a => @ite _ (O a ∨ ∃ ps, H a = some (.tbl ps)) (Classical.propDecidable _) none (H a)
theorem hide_some {H : Hp} {O : Addr → Prop} {a : Addr} {o : HO} : hide H O a = some o ↔ (¬ O a ∧ NT o) ∧ H a = some o := by
  unfold hide
  by_cases h : O a ∨ ∃ ps, H a = some (.tbl ps)
  · rw [if_pos h]
    refine ⟨fun q => (by simp at q), fun q => ?_⟩
    rcases h with h | ⟨ps, h⟩
    · exact absurd h q.1.1
    · rw [q.2] at h
      exact absurd (by simpa using h) (q.1.2 ps)
  · rw [if_neg h]
    refine ⟨fun q => ⟨⟨fun z => h (.inl z), fun ps e => h (.inr ⟨ps, by rw [q, e]⟩)⟩, q⟩, fun q => q.2⟩
theorem hide_le (H : Hp) (O : Addr → Prop) : Le (hide H O) H := fun _ _ e => (hide_some.mp e).2
theorem hide_mono {H H' : Hp} {O O' : Addr → Prop} (h : ∀ a o, H a = some o → NT o → ¬ O a → H' a = some o ∧ ¬ O' a) : Le (hide H O) (hide H' O') := fun a o e =>
  let ⟨⟨n, t⟩, q⟩ := hide_some.mp e
  let ⟨q', n'⟩ := h a o q t n
  hide_some.mpr ⟨⟨n', t⟩, q'⟩
theorem hide_less {H : Hp} {O O' : Addr → Prop} (h : ∀ a, O' a → O a) : Le (hide H O) (hide H O') := hide_mono fun a o e t n => ⟨e, fun z => n (h a z)⟩

/-! ### slots -/
/-- a container that stands at a, its parts apart from what is hidden -/
def Cont (Z : Wd) (H G : Hp) (d : D) (a : Addr) : Prop := match d with
  | .lst xs => ∃ vs, H a = some (.lst vs) ∧ Reps Z G xs vs
  | .dic kvs => ∃ ks, H a = some (.dK ks) ∧ RepK Z G kvs ks
  | _ => False
theorem Cont.rep {Z : Wd} {H G : Hp} {d : D} {a : Addr} (l : Le G H) (c : Cont Z H G d a) : Rep Z H d (.ref a) := by
  cases d with
  | lst xs => obtain ⟨vs, h, r⟩ := c; exact .lst h (r.le l)
  | dic kvs => obtain ⟨ks, h, r⟩ := c; exact .dic h (r.le l)
  | _ => exact c.elim
theorem Cont.mono {Z : Wd} {H G H' G' : Hp} {d : D} {a : Addr} (l : Le G G') (e : ∀ o, H a = some o → H' a = some o) (c : Cont Z H G d a) : Cont Z H' G' d a := by
  cases d with
  | lst xs => obtain ⟨vs, h, r⟩ := c; exact ⟨vs, e _ h, r.le l⟩
  | dic kvs => obtain ⟨ks, h, r⟩ := c; exact ⟨ks, e _ h, r.le l⟩
  | _ => exact c.elim
theorem Cont.monoN {Z : Wd} {H G H' G' : Hp} {d : D} {a : Addr} (l : Le G G') (e : ∀ o, H a = some o → NT o → H' a = some o) (c : Cont Z H G d a) : Cont Z H' G' d a := by
  cases d with
  | lst xs => obtain ⟨vs, h, r⟩ := c; exact ⟨vs, e _ h nt_lst, r.le l⟩
  | dic kvs => obtain ⟨ks, h, r⟩ := c; exact ⟨ks, e _ h nt_dK, r.le l⟩
  | _ => exact c.elim
/-- a value that is lent: plain, or a container of one's own -/
def RB (Z : Wd) (H : Hp) (O : Addr → Prop) (d : D) (v : V) : Prop := Rep Z (hide H O) d v ∨ ∃ a, v = .ref a ∧ O a ∧ Cont Z H (hide H O) d a
theorem RB.rep {Z : Wd} {H : Hp} {O : Addr → Prop} {d : D} {v : V} (r : RB Z H O d v) : Rep Z H d v := by
  rcases r with r | ⟨a, rfl, _, c⟩
  · exact r.le (hide_le H O)
  · exact c.rep (hide_le H O)
theorem RB.tup {Z : Wd} {H : Hp} {O : Addr → Prop} {xs : List D} {v : V} (r : RB Z H O (.tup xs) v) : ∃ a vs, v = .ref a ∧ SqT Z.K H a vs ∧ Reps Z (hide H O) xs vs := by
  rcases r with r | ⟨a, rfl, _, c⟩
  · cases r with
    | tup s q => exact ⟨_, _, rfl, (hide_le H O).sqT s, q⟩
  · exact c.elim
theorem RB.lst {Z : Wd} {H : Hp} {O : Addr → Prop} {xs : List D} {v : V} (r : RB Z H O (.lst xs) v) : ∃ a vs, v = .ref a ∧ H a = some (.lst vs) ∧ Reps Z (hide H O) xs vs := by
  rcases r with r | ⟨a, rfl, _, c⟩
  · cases r with
    | lst s q => exact ⟨_, _, rfl, hide_le H O _ _ s, q⟩
  · obtain ⟨vs, h, q⟩ := c; exact ⟨a, vs, rfl, h, q⟩
theorem RB.dic {Z : Wd} {H : Hp} {O : Addr → Prop} {xs : List (D × D)} {v : V} (r : RB Z H O (.dic xs) v) : ∃ a vs, v = .ref a ∧ H a = some (.dK vs) ∧ RepK Z (hide H O) xs vs := by
  rcases r with r | ⟨a, rfl, _, c⟩
  · cases r with
    | dic s q => exact ⟨_, _, rfl, hide_le H O _ _ s, q⟩
  · obtain ⟨vs, h, q⟩ := c; exact ⟨a, vs, rfl, h, q⟩
theorem RB.frz {Z : Wd} {H : Hp} {O : Addr → Prop} {xs : List D} {v : V} (r : RB Z H O (.frz xs) v) : ∃ a vs, v = .ref a ∧ SqL Z.K H a vs ∧ Reps Z (hide H O) xs vs := by
  rcases r with r | ⟨a, rfl, _, c⟩
  · cases r with
    | frz s q => exact ⟨_, _, rfl, (hide_le H O).sqL s, q⟩
  · exact c.elim
/-- .. and the container is one of N -/
def RBx (N : Addr → Prop) (Z : Wd) (H : Hp) (O : Addr → Prop) (d : D) (v : V) : Prop := Rep Z (hide H O) d v ∨ ∃ a, v = .ref a ∧ O a ∧ N a ∧ Cont Z H (hide H O) d a
theorem RBx.rb {N : Addr → Prop} {Z : Wd} {H : Hp} {O : Addr → Prop} {d : D} {v : V} (r : RBx N Z H O d v) : RB Z H O d v := by
  rcases r with r | ⟨a, e, o, _, c⟩
  · exact .inl r
  · exact .inr ⟨a, e, o, c⟩
/-- the places that are restricted -/
structure Pl where
  own : List Nat
  bor : List Nat
  hold : Option (Nat × V)
  lock : Addr → Prop
/-- an address that no restricted place of one's own holds -/
def NotOwn (c : Pl) (σ : St) (a : Addr) : Prop := ∀ i ∈ c.own, σ[i]? ≠ some (some (.ref a))
/-- .. nor a new list that grows -/
def Apart (c : Pl) (σ : St) (a : Addr) : Prop := NotOwn c σ a ∧ ¬ c.lock a
structure RelS (Z : Wd) (c : Pl) (O : Addr → Prop) (σd : Sd) (σ : St) (H : Hp) : Prop where
  len : σd.length = σ.length
  dom : ∀ a, O a → ∃ o, H a = some o ∧ NT o
  tab : LamX.Tabs Z.T H
  own : ∀ i ∈ c.own, ∀ a, σ[i]? = some (some (.ref a)) → O a
  inj : ∀ i ∈ c.own, ∀ j ∈ c.own, ∀ a, σ[i]? = some (some (.ref a)) → σ[j]? = some (some (.ref a)) → i = j
  slot : ∀ i d, σd[i]? = some (some d) → ∃ v, σ[i]? = some (some v) ∧ (i ∈ c.own → ∃ a, v = .ref a ∧ Cont Z H (hide H O) d a) ∧ (i ∉ c.own → i ∈ c.bor → RBx (Apart c σ) Z H O d v) ∧ (i ∉ c.own → i ∉ c.bor → Rep Z (hide H O) d v)
  hold : ∀ i v, c.hold = some (i, v) → σ[i]? = some (some v)
/-- behind an expression -/
def KeepE (c : Pl) (σ : St) (H H' : Hp) : Prop := ∀ a o, H a = some o → NT o → NotOwn c σ a → H' a = some o
theorem KeepE.refl {c : Pl} {σ : St} {H : Hp} : KeepE c σ H H := fun _ _ h _ _ => h
theorem KeepE.trans {c : Pl} {σ : St} {A B C : Hp} (h : KeepE c σ A B) (k : KeepE c σ B C) : KeepE c σ A C := fun a o e t n => k a o (h a o e t n) t n
theorem RelS.notOwn {Z : Wd} {c : Pl} {O : Addr → Prop} {σd : Sd} {σ : St} {H : Hp} (r : RelS Z c O σd σ H) {a : Addr} (n : ¬ O a) : NotOwn c σ a := fun i hi e => n (r.own i hi a e)
/-- what is seen stays -/
theorem RelS.le {Z : Wd} {c : Pl} {O : Addr → Prop} {σd : Sd} {σ : St} {H H' : Hp} (r : RelS Z c O σd σ H) (k : KeepE c σ H H') : Le (hide H O) (hide H' O) :=
  hide_mono fun a o e t n => ⟨k a o e t (r.notOwn n), n⟩
/-- a lent value stays, if it is none of one's own places -/
theorem RelS.weak {Z : Wd} {c : Pl} {O : Addr → Prop} {σd σd' : Sd} {σ : St} {H : Hp} (r : RelS Z c O σd σ H) (hl : σd'.length = σd.length) (h : ∀ (i : Nat) d, σd'[i]? = some (some d) → σd[i]? = some (some d)) : RelS Z c O σd' σ H :=
  ⟨hl.trans r.len, r.dom, r.tab, r.own, r.inj, fun i d e => r.slot i d (h i d e), r.hold⟩
theorem RelS.nones {Z : Wd} {c : Pl} {O : Addr → Prop} {σd : Sd} {σ : St} {H : Hp} (r : RelS Z c O σd σ H) : RelS Z c O (List.replicate σd.length none) σ H :=
  r.weak (by simp) fun i d e => by
    rw [List.getElem?_replicate] at e
    split at e <;> simp at e
/-- the heap grows, one's own places stay as they are -/
theorem RelS.grow {Z : Wd} {c : Pl} {O : Addr → Prop} {σd : Sd} {σ : St} {H H' : Hp} (r : RelS Z c O σd σ H) (l : Le H H') : RelS Z c O σd σ H' :=
  have g : Le (hide H O) (hide H' O) := hide_mono fun a o e t n => ⟨l a o e, n⟩
  ⟨r.len, fun a h => let ⟨o, e, t⟩ := r.dom a h; ⟨o, l a o e, t⟩, r.tab.ext l, r.own, r.inj, fun i d e => by
    obtain ⟨v, h1, h2, h3, h4⟩ := r.slot i d e
    refine ⟨v, h1, fun z => ?_, fun z1 z2 => ?_, fun z1 z2 => (h4 z1 z2).le g⟩
    · obtain ⟨a, ea, c⟩ := h2 z
      exact ⟨a, ea, c.mono g fun o q => l a o q⟩
    · rcases h3 z1 z2 with q | ⟨a, ea, oa, na, c⟩
      · exact .inl (q.le g)
      · exact .inr ⟨a, ea, oa, na, c.mono g fun o q => l a o q⟩, r.hold⟩
theorem le_upd {H : Hp} {p : Addr} {o : HO} (h : H p = none) : Le H (upd H p o) := fun a u e => by rw [upd_ne (ne_of_none e h)]; exact e
theorem KeepE.of_le {c : Pl} {σ : St} {H H' : Hp} (l : Le H H') : KeepE c σ H H' := fun a o e _ _ => l a o e
def plus (O : Addr → Prop) (a : Addr) : Addr → Prop := fun b => O b ∨ b = a
theorem plus_le {H : Hp} {O : Addr → Prop} {p : Addr} (o : HO) (h : H p = none) : Le (hide H O) (hide (upd H p o) (plus O p)) := hide_mono fun a u e t n =>
  have z : a ≠ p := ne_of_none e h
  ⟨by rw [upd_ne z]; exact e, fun q => q.elim n z⟩
theorem plus_less {H : Hp} {O : Addr → Prop} {p : Addr} : Le (hide H (plus O p)) (hide H O) := hide_less fun _ h => .inl h
/-- a new object that is one's own from now on -/
theorem RelS.plus {Z : Wd} {c : Pl} {O : Addr → Prop} {σd : Sd} {σ : St} {H : Hp} (r : RelS Z c O σd σ H) {p : Addr} (hp : H p = none) (o : HO) (t : NT o) : RelS Z c (plus O p) σd σ (upd H p o) := by
  have l := le_upd (o := o) hp
  have g := plus_le (O := O) o hp
  refine ⟨r.len, fun a h => ?_, r.tab.ext l, fun i hi a e => .inl (r.own i hi a e), r.inj, fun i d e => ?_, r.hold⟩
  · rcases h with h | rfl
    · obtain ⟨u, e, t⟩ := r.dom a h; exact ⟨u, l a u e, t⟩
    · exact ⟨o, upd_same, t⟩
  · obtain ⟨v, h1, h2, h3, h4⟩ := r.slot i d e
    refine ⟨v, h1, fun z => ?_, fun z1 z2 => ?_, fun z1 z2 => (h4 z1 z2).le g⟩
    · obtain ⟨a, ea, ct⟩ := h2 z
      exact ⟨a, ea, ct.mono g fun u q => l a u q⟩
    · rcases h3 z1 z2 with q | ⟨a, ea, oa, na, ct⟩
      · exact .inl (q.le g)
      · exact .inr ⟨a, ea, .inl oa, na, ct.mono g fun u q => l a u q⟩
/-- nothing stands there (but a table) -/
def Fre (H : Hp) (a : Addr) : Prop := ∀ o, H a = some o → ¬ NT o
theorem fre_none {H : Hp} {a : Addr} (h : H a = none) : Fre H a := fun o e => by rw [h] at e; cases e
/-- what is new behind was new ahead -/
theorem RelS.back {Z : Wd} {c : Pl} {O : Addr → Prop} {σd σd' : Sd} {σ : St} {H H' : Hp} (r0 : RelS Z c O σd σ H) (r : RelS Z c O σd' σ H') (k : KeepE c σ H H') {p : Addr} (hp : Fre H' p) : Fre H p := fun o e t => by
  by_cases ho : O p
  · obtain ⟨u, q, t'⟩ := r.dom p ho
    exact hp u q t'
  · exact hp o (k p o e t (r0.notOwn ho)) t
/-- D is a list that grows -/
def lk (c : Pl) (D : Addr) : Pl := { c with lock := plus c.lock D }
theorem lk_notOwn {c : Pl} {σ : St} {D a : Addr} : NotOwn (lk c D) σ a ↔ NotOwn c σ a := Iff.rfl
theorem RelS.locked {Z : Wd} {c : Pl} {O : Addr → Prop} {σd : Sd} {σ : St} {H : Hp} (r : RelS Z c O σd σ H) {D : Addr} (hD : H D = none) (o : HO) (t : NT o) : RelS Z (lk c D) (BF.plus O D) σd σ (upd H D o) := by
  have r2 := r.plus hD o t
  refine ⟨r2.len, r2.dom, r2.tab, r2.own, r2.inj, fun i d e => ?_, r2.hold⟩
  obtain ⟨v, h1, h2, h3, h4⟩ := r2.slot i d e
  refine ⟨v, h1, h2, fun z1 z2 => ?_, h4⟩
  -- the container was there ahead of D
  obtain ⟨w, k1, k2, k3, k4⟩ := r.slot i d e
  rw [h1] at k1
  obtain rfl : v = w := by simpa using k1
  rcases k3 z1 z2 with q | ⟨a, ea, oa, na, ct⟩
  · exact .inl (q.le (plus_le o hD))
  · have ne : a ≠ D := fun z => by
      obtain ⟨u, eu, _⟩ := r.dom a oa
      rw [z, hD] at eu; cases eu
    exact .inr ⟨a, ea, .inl oa, ⟨na.1, fun z => z.elim na.2 ne⟩, ct.mono (plus_le o hD) fun u q => by rw [upd_ne ne]; exact q⟩
theorem RelS.unlk {Z : Wd} {c : Pl} {O : Addr → Prop} {σd : Sd} {σ : St} {H : Hp} {A : Addr} (r : RelS Z (lk c A) O σd σ H) : RelS Z c O σd σ H := ⟨r.len, r.dom, r.tab, r.own, r.inj, fun i d e => by
  obtain ⟨v, h1, h2, h3, h4⟩ := r.slot i d e
  refine ⟨v, h1, h2, fun z1 z2 => ?_, h4⟩
  rcases h3 z1 z2 with q | ⟨a, ea, oa, na, ct⟩
  · exact .inl q
  · exact .inr ⟨a, ea, oa, ⟨na.1, fun z => na.2 (.inl z)⟩, ct⟩, r.hold⟩
/-- what is told of a new container -/
def FrR (Z : Wd) (c : Pl) (O : Addr → Prop) (σ : St) (H0 H' : Hp) (σd : Sd) (d : D) (v : V) : Prop := isContainer d = true → ∃ a, v = .ref a ∧ Fre H0 a ∧ Cont Z H' (hide H' (BF.plus O a)) d a ∧ RelS Z (lk c a) (BF.plus O a) σd σ H'
end BF

/-! Go -/
set_option Elab.async false
set_option linter.all false
set_option maxRecDepth 100000
set_option maxHeartbeats 2000000
namespace BF
open PySem L2

/-- what a result r from the state (σ, H) on must lead to: K behind a value, W behind an error -/
def Go {β : Type} (Z : Wd) (c : Pl) (W : WX) (r : R (β × Sd)) (O : Addr → Prop) (σ : St) (H : Hp) (K : β → Sd → Hp → Prop) : Prop :=
  match r with
  | .ok q => ∀ H', RelS Z c O q.2 σ H' → KeepE c σ H H' → K q.1 q.2 H'
  | .exc k => ∀ H', RelS Z c O (List.replicate σ.length none) σ H' → KeepE c σ H H' → W (.ref (Z.cad k)) none σ H'
  | .bad => False
section
variable {Z : Wd} {c : Pl} {W : WX} {O : Addr → Prop} {σ : St} {H : Hp} {β γ : Type}
theorem Go.imp {r : R (β × Sd)} {K K' : β → Sd → Hp → Prop} (h : Go Z c W r O σ H K) (i : ∀ b σd H', r = .ok (b, σd) → RelS Z c O σd σ H' → KeepE c σ H H' → K b σd H' → K' b σd H') : Go Z c W r O σ H K' := by
  cases r with
  | ok q => exact fun H' hr hk => i q.1 q.2 H' rfl hr hk (h H' hr hk)
  | exc k => exact h
  | bad => exact h
theorem Go.bind {r : R (β × Sd)} {g : β × Sd → R (γ × Sd)} {K : γ → Sd → Hp → Prop} (h : Go Z c W (r.bind g) O σ H K) : Go Z c W r O σ H fun b σd H' => Go Z c W (g (b, σd)) O σ H' K := by
  cases r with
  | ok q =>
    intro H' hr hk
    show Go Z c W (g q) O σ H' K
    have h' : Go Z c W (g q) O σ H K := h
    revert h'
    generalize g q = r2
    intro h'
    cases r2 with
    | ok q2 => exact fun H2 hr2 hk2 => h' H2 hr2 (hk.trans hk2)
    | exc k => exact fun H2 hr2 hk2 => h' H2 hr2 (hk.trans hk2)
    | bad => exact h'
  | exc k => exact h
  | bad => exact h
/-- a step that stores nothing -/
theorem Go.pure {α : Type} {r : R α} {g : α → R (γ × Sd)} {K : γ → Sd → Hp → Prop} (h : Go Z c W (r.bind g) O σ H K) (hp : ∀ k, r ≠ .exc k) : ∃ a, r = .ok a ∧ Go Z c W (g a) O σ H K := by
  cases r with
  | ok a => exact ⟨a, rfl, h⟩
  | exc k => exact absurd rfl (hp k)
  | bad => exact h.elim
theorem ofO_ne {α : Type} {o : Option α} : ∀ k, R.ofO o ≠ .exc k := by cases o <;> intro k e <;> simp [R.ofO] at e
theorem ofO_ok {α : Type} {o : Option α} {a : α} (h : R.ofO o = .ok a) : o = some a := by cases o <;> simp [R.ofO] at h; rw [h]
theorem Go.opt {α : Type} {o : Option α} {g : α → R (γ × Sd)} {K : γ → Sd → Hp → Prop} (h : Go Z c W ((R.ofO o).bind g) O σ H K) : ∃ a, o = some a ∧ Go Z c W (g a) O σ H K := by
  obtain ⟨a, e, q⟩ := h.pure ofO_ne
  exact ⟨a, ofO_ok e, q⟩
theorem getS_ne {σd : Sd} {i : Nat} : ∀ k, getS σd i ≠ .exc k := by
  intro k e
  unfold getS at e
  split at e <;> simp at e
theorem getS_ok {σd : Sd} {i : Nat} {d : D} (h : getS σd i = .ok d) : σd[i]? = some (some d) := by
  unfold getS at h
  split at h
  · rename_i d' e
    simp at h
    rw [e, h]
  · simp at h
theorem Go.get {σd : Sd} {i : Nat} {g : D → R (γ × Sd)} {K : γ → Sd → Hp → Prop} (h : Go Z c W ((getS σd i).bind g) O σ H K) : ∃ d, σd[i]? = some (some d) ∧ Go Z c W (g d) O σ H K := by
  obtain ⟨a, e, q⟩ := h.pure getS_ne
  exact ⟨a, getS_ok e, q⟩
theorem Go.ok {q : β × Sd} {K : β → Sd → Hp → Prop} (h : Go Z c W (.ok q) O σ H K) {H' : Hp} (hr : RelS Z c O q.2 σ H') (hk : KeepE c σ H H') : K q.1 q.2 H' := h H' hr hk
theorem Go.iff {p : Prop} [Decidable p] {r : R (β × Sd)} {K : β → Sd → Hp → Prop} (h : Go Z c W (if p then r else .bad) O σ H K) : p ∧ Go Z c W r O σ H K := by
  by_cases hp : p
  · rw [if_pos hp] at h; exact ⟨hp, h⟩
  · rw [if_neg hp] at h; exact h.elim
end

/-- how a value is told -/
abbrev Tl := Hp → Hp → D → V → Prop
/-- plain: what is seen -/
def tP (Z : Wd) (O : Addr → Prop) : Tl := fun _ H' d v => Rep Z (hide H' O) d v
/-- lent -/
def tL (Z : Wd) (O : Addr → Prop) : Tl := fun _ H' d v => RB Z H' O d v
/-- the reading of what f gives -/
def TEe (Z : Wd) (c : Pl) (W : WX) (P : (Addr → Prop) → Tl) (f : Sd → R (D × Sd)) : TE := fun σ H Q => ∃ O σd, RelS Z c O σd σ H ∧ Go Z c W (f σd) O σ H fun d _ H' => ∀ v, P O H H' d v → Q v H'
/-- .. of a list -/
def TAe (Z : Wd) (c : Pl) (W : WX) (f : Sd → R (List D × Sd)) : TA := fun σ H Q => ∃ O σd, RelS Z c O σd σ H ∧ Go Z c W (f σd) O σ H fun ds _ H' => ∀ vs, Reps Z (hide H' O) ds vs → Q vs H'
/-- .. of a test -/
def TTe (Z : Wd) (c : Pl) (W : WX) (f : Sd → R (Bool × Sd)) : TT := fun σ H Q => ∃ O σd, RelS Z c O σd σ H ∧ Go Z c W (f σd) O σ H fun k _ H' => Q k H'
/-- the values of arguments that may be lent: at the end of all -/
def ArgL (Z : Wd) (c : Pl) (O : Addr → Prop) (σ : St) (H : Hp) : Es → List D → List V → Prop
  | .nil, [], [] => True
  | .cons e es, d :: ds, v :: vs => (match e with
      | .rv i => σ[i]? = some (some v)
      | _ => Rep Z (hide H O) d v) ∧ ArgL Z c O σ H es ds vs
  | _, _, _ => False
def TLe (Z : Wd) (c : Pl) (W : WX) (es : Es) (f : Sd → R (List D × Sd)) : TA := fun σ H Q => ∃ O σd, RelS Z c O σd σ H ∧ Go Z c W (f σd) O σ H fun ds _ H' => ∀ vs, ArgL Z c O σ H' es ds vs → Q vs H'

theorem _root_.L2.PE.weak {X : Cx} {e : Expr} {t t' : TE} (h : PE X e t) (i : ∀ σ H Q, t' σ H Q → t σ H Q) : PE X e t' := ⟨fun pins s σ H Q I q => h.run pins s σ H Q I (i σ H Q q)⟩
theorem _root_.L2.PT.weak {X : Cx} {e : Expr} {t t' : TT} (h : PT X e t) (i : ∀ σ H Q, t' σ H Q → t σ H Q) : PT X e t' := ⟨fun pins s σ H Q I q => h.run pins s σ H Q I (i σ H Q q)⟩
theorem _root_.L2.PA.weak {X : Cx} {e : List Expr} {t t' : TA} (h : PA X e t) (i : ∀ σ H Q, t' σ H Q → t σ H Q) : PA X e t' := ⟨fun pos pins s σ H Q I q => h.run pos pins s σ H Q I (i σ H Q q)⟩
theorem _root_.L2.PS.weak {X : Cx} {e : Stmt} {t t' : TS} (h : PS X e t) (i : ∀ D σ H, t' D σ H → t D σ H) : PS X e t' := ⟨fun pins s σ H D I q => h.run pins s σ H D I (i D σ H q)⟩
theorem _root_.L2.PSs.weak {X : Cx} {e : List Stmt} {t t' : TS} (h : PSs X e t) (i : ∀ D σ H, t' D σ H → t D σ H) : PSs X e t' := ⟨fun pins s σ H D I q => h.run pins s σ H D I (i D σ H q)⟩
theorem _root_.L2.PE.none {X : Cx} {e : Expr} {t : TE} (h : ∀ σ H Q, ¬ t σ H Q) : PE X e t := ⟨fun pins s σ H Q I q => absurd q (h σ H Q)⟩
theorem _root_.L2.PT.none {X : Cx} {e : Expr} {t : TT} (h : ∀ σ H Q, ¬ t σ H Q) : PT X e t := ⟨fun pins s σ H Q I q => absurd q (h σ H Q)⟩
theorem _root_.L2.PA.none {X : Cx} {e : List Expr} {t : TA} (h : ∀ σ H Q, ¬ t σ H Q) : PA X e t := ⟨fun pos pins s σ H Q I q => absurd q (h σ H Q)⟩
theorem _root_.L2.PS.none {X : Cx} {e : Stmt} {t : TS} (h : ∀ D σ H, ¬ t D σ H) : PS X e t := ⟨fun pins s σ H D I q => absurd q (h D σ H)⟩
theorem _root_.L2.PSs.none {X : Cx} {e : List Stmt} {t : TS} (h : ∀ D σ H, ¬ t D σ H) : PSs X e t := ⟨fun pins s σ H D I q => absurd q (h D σ H)⟩
/-- .. of what gives a new container, if it gives one: H0 the heap ahead of it -/
def KF (Z : Wd) (c : Pl) (O : Addr → Prop) (σ : L2.St) (H0 : Hp) (Q : VK) : D → Sd → Hp → Prop := fun d σd H' => ∀ v, FrR Z c O σ H0 H' σd d v → Rep Z (hide H' O) d v → Q v H'
def TFe (Z : Wd) (c : Pl) (W : WX) (f : Sd → R (D × Sd)) : TE := fun σ H Q => ∃ O σd, RelS Z c O σd σ H ∧ Go Z c W (f σd) O σ H (KF Z c O σ H Q)
theorem _root_.L2.PE.ofF {X : Cx} {e : Expr} {Z : Wd} {c : Pl} {W : WX} {f : Sd → R (D × Sd)} (h : PE X e (TFe Z c W f)) : PE X e (TEe Z c W (tP Z) f) := h.weak fun σ H Q ⟨O, σd, r, g⟩ => ⟨O, σd, r, g.imp fun d σ1 H1 _ _ _ q v _ rv => q v rv⟩
/-- a value told -/
abbrev RetF (Z : Wd) (c : Pl) (W : WX) (O : Addr → Prop) (σ : L2.St) (H0 : Hp) (σd : Sd) (H : Hp) (d : D) (Q : VK) : Prop := Go Z c W (.ok (d, σd)) O σ H (KF Z c O σ H0 Q)
theorem RetF.done {Z : Wd} {c : Pl} {W : WX} {O : Addr → Prop} {σ : L2.St} {H0 H : Hp} {σd : Sd} {d : D} {Q : VK} (g : RetF Z c W O σ H0 σd H d Q) (r : RelS Z c O σd σ H) (n : isContainer d = false) {v : V} (hv : Rep Z (hide H O) d v) : Q v H :=
  g.ok r KeepE.refl v (fun h => by rw [n] at h; cases h) hv
theorem RetF.newT {Z : Wd} {c : Pl} {W : WX} {O : Addr → Prop} {σ : L2.St} {H0 H : Hp} {σd : Sd} {xs : List D} {vs : List V} {Q : VK} (g : RetF Z c W O σ H0 σd H (.tup xs) Q) (r : RelS Z c O σd σ H) (rs : Reps Z (hide H O) xs vs) : ∀ p, H p = none → Q (.ref p) (upd H p (.tup vs)) := fun p hp => by
  have np : ¬ O p := fun h => by
    obtain ⟨u, e, _⟩ := r.dom p h
    rw [hp] at e; cases e
  have l := le_upd (o := .tup vs) hp
  have g2 : Le (hide H O) (hide (upd H p (.tup vs)) O) := hide_mono fun a u e t n => ⟨l a u e, n⟩
  exact g.ok (r.grow l) (KeepE.of_le l) _ (fun h => by cases h) (.tup (.inl (.inl (hide_some.mpr ⟨⟨np, nt_tup⟩, upd_same⟩))) (rs.le g2))
theorem RetF.newL {Z : Wd} {c : Pl} {W : WX} {O : Addr → Prop} {σ : L2.St} {H0 H : Hp} {σd : Sd} {xs : List D} {vs : List V} {Q : VK} (g : RetF Z c W O σ H0 σd H (.lst xs) Q) (r : RelS Z c O σd σ H) (hb : ∀ p, Fre H p → Fre H0 p) (rs : Reps Z (hide H O) xs vs) : ∀ p, H p = none → Q (.ref p) (upd H p (.lst vs)) := fun p hp => by
  have np : ¬ O p := fun h => by
    obtain ⟨u, e, _⟩ := r.dom p h
    rw [hp] at e; cases e
  have l := le_upd (o := .lst vs) hp
  have g2 : Le (hide H O) (hide (upd H p (.lst vs)) O) := hide_mono fun a u e t n => ⟨l a u e, n⟩
  exact g.ok (r.grow l) (KeepE.of_le l) _ (fun _ => ⟨p, rfl, hb p (fre_none hp), ⟨vs, upd_same, rs.le (plus_le _ hp)⟩, r.locked hp _ nt_lst⟩) (.lst (hide_some.mpr ⟨⟨np, nt_lst⟩, upd_same⟩) (rs.le g2))
theorem TEe.bad {Z : Wd} {c : Pl} {W : WX} {P : (Addr → Prop) → Tl} {f : Sd → R (D × Sd)} (h : ∀ σ, f σ = .bad) : ∀ σ H Q, ¬ TEe Z c W P f σ H Q := fun σ H Q ⟨O, σd, _, q⟩ => by rw [h] at q; exact q
end BF

/-! Snd1 -/
set_option Elab.async false
set_option linter.all false
set_option maxRecDepth 100000
set_option maxHeartbeats 2000000
namespace BF
open PySem L2

theorem SZ_eq : SZ = sizeLine := by rfl
section
variable {Z : Wd} {c : Pl} {W : WX} {O : Addr → Prop} {σ : L2.St} {σd : Sd} {H H' : Hp} {X : Cx}

/-- a new object -/
theorem RelS.new (r : RelS Z c O σd σ H) {p : Addr} (hp : H p = none) (o : HO) (t : NT o) : RelS Z c O σd σ (upd H p o) ∧ KeepE c σ H (upd H p o) ∧ ¬ O p ∧ Le (hide H O) (hide (upd H p o) O) ∧ hide (upd H p o) O p = some o := by
  have np : ¬ O p := fun h => by
    obtain ⟨u, e, _⟩ := r.dom p h
    rw [hp] at e; cases e
  have l := le_upd (o := o) hp
  exact ⟨r.grow l, KeepE.of_le l, np, hide_mono fun a u e t n => ⟨l a u e, n⟩, hide_some.mpr ⟨⟨np, t⟩, upd_same⟩⟩
/-- at an alloc: what is asked -/
theorem Go.alloc {β : Type} {q : β × Sd} {K : β → Sd → Hp → Prop} (h : Go Z c W (.ok q) O σ H K) (r : RelS Z c O q.2 σ H) {p : Addr} (hp : H p = none) (o : HO) (t : NT o) : K q.1 q.2 (upd H p o) :=
  h.ok (r.new hp o t).1 (r.new hp o t).2.1

/-! ### constants, names -/
theorem s_cst {e : Expr} {d : D} {v : V} {l : Lv} (h : PE X e (tC v)) (r : ∀ H, Rep Z H d v) : PE X e (TEe Z c W (tP Z) (ev (.cst d) l)) :=
  h.weak fun σ H Q ⟨O, σd, hr, hg⟩ => hg.ok hr KeepE.refl v (r _)
theorem s_fn {e : Expr} {f : Nat} {l : Lv} (h : PE X e (tC (.ref (Z.fad f)))) : PE X e (TEe Z c W (tP Z) (ev (.fn f) l)) :=
  h.weak fun σ H Q ⟨O, σd, hr, hg⟩ => hg.ok hr KeepE.refl _ (.fn f)
theorem s_var {e : Expr} {i : Nat} {l : Lv} (h : PE X e (tVar i)) (n1 : i ∉ c.own) (n2 : i ∉ c.bor) : PE X e (TEe Z c W (tP Z) (ev (.var i) l)) :=
  h.weak fun σ H Q ⟨O, σd, hr, hg⟩ => by
    obtain ⟨d, e1, hg⟩ := Go.get hg
    obtain ⟨v, e2, _, _, h4⟩ := hr.slot i d e1
    exact ⟨v, e2, hg.ok hr KeepE.refl v (h4 n1 n2)⟩
/-- a lent name -/
theorem s_rv {e : Expr} {i : Nat} {r : R (D × Sd)} (h : PE X e (tVar i)) (n : i ∈ c.own ∨ i ∈ c.bor) : PE X e (TEe Z c W (tL Z) (fun σ => lent (.rv i) r σ)) :=
  h.weak fun σ H Q ⟨O, σd, hr, hg⟩ => by
    obtain ⟨d, e1, hg⟩ := Go.get (show Go Z c W ((getS σd i).bind fun d => .ok (d, σd)) O σ H _ from hg)
    obtain ⟨v, e2, h2, h3, h4⟩ := hr.slot i d e1
    refine ⟨v, e2, hg.ok hr KeepE.refl v ?_⟩
    by_cases ho : i ∈ c.own
    · obtain ⟨a, ea, ct⟩ := h2 ho
      exact .inr ⟨a, ea, hr.own i ho a (by rw [e2, ea]), ct⟩
    · rcases n with n | n
      · exact absurd n ho
      · exact (h3 ho n).rb
theorem s_lent {e : Expr} {k : E} {f : Sd → R (D × Sd)} (h : PE X e (TEe Z c W (tP Z) f)) (n : isRv k = false) : PE X e (TEe Z c W (tL Z) (fun σ => lent k (f σ) σ)) :=
  h.weak fun σ H Q ⟨O, σd, hr, hg⟩ => ⟨O, σd, hr, by
    have e : lent k (f σd) σd = f σd := by cases k <;> first | rfl | (simp [isRv] at n)
    dsimp only at hg
    rw [e] at hg
    exact hg.imp fun d σ1 H1 _ _ _ q v r => q v (.inl r)⟩
/-! ### lists of expressions -/
theorem s_nil : PA X [] (TAe Z c W (evs .nil l)) := pa_nil.weak fun σ H Q ⟨O, σd, hr, hg⟩ => hg.ok hr KeepE.refl [] .nil
theorem s_cons {e : Expr} {es : List Expr} {k : E} {ks : Es} {l : Lv} (h : PE X e (TEe Z c W (tP Z) (ev k l))) (t : PA X es (TAe Z c W (evs ks l))) (hs : starEach (e :: es) X.env = (false, eval e X.env) :: starEach es X.env) :
    PA X (e :: es) (TAe Z c W (evs (.cons k ks) l)) := (pa_cons h t hs).weak fun σ H Q ⟨O, σd, hr, hg⟩ => by
  refine ⟨O, σd, hr, (Go.bind (r := ev k l σd) hg).imp fun d σ1 H1 _ r1 k1 g v rv => ⟨O, σ1, r1, (Go.bind (r := evs ks l σ1) g).imp fun ds σ2 H2 _ r2 k2 g2 vs rs => ?_⟩⟩
  exact g2.ok r2 KeepE.refl _ (.cons (rv.le (r1.le k2)) rs)
theorem argL_nil : ArgL Z c O σ H .nil [] [] := trivial
theorem s_nilL {l : Lv} : PA X [] (TLe Z c W .nil (evbs .nil l)) := pa_nil.weak fun σ H Q ⟨O, σd, hr, hg⟩ => hg.ok hr KeepE.refl [] trivial
theorem s_consL {e : Expr} {es : List Expr} {k : E} {ks : Es} {l : Lv} (h : (isRv k = false ∧ PE X e (TEe Z c W (tP Z) (ev k l))) ∨ (∃ i, k = .rv i ∧ PE X e (tVar i))) (t : PA X es (TLe Z c W ks (evbs ks l))) (hs : starEach (e :: es) X.env = (false, eval e X.env) :: starEach es X.env) :
    PA X (e :: es) (TLe Z c W (.cons k ks) (evbs (.cons k ks) l)) := by
  rcases h with ⟨n, h⟩ | ⟨i, rfl, h⟩
  · refine (pa_cons h t hs).weak fun σ H Q ⟨O, σd, hr, hg⟩ => ?_
    have e1 : lent k (ev k l σd) σd = ev k l σd := by cases k <;> first | rfl | (simp [isRv] at n)
    have hg' : Go Z c W ((ev k l σd).bind fun p => (evbs ks l p.2).bind fun q => .ok (p.1 :: q.1, q.2)) O σ H (fun ds _ H' => ∀ vs, ArgL Z c O σ H' (.cons k ks) ds vs → Q vs H') := by
      rw [← e1]; exact hg
    refine ⟨O, σd, hr, (Go.bind (r := ev k l σd) hg').imp fun d σ1 H1 _ r1 k1 g v rv => ⟨O, σ1, r1, (Go.bind (r := evbs ks l σ1) g).imp fun ds σ2 H2 _ r2 k2 g2 vs rs => ?_⟩⟩
    refine g2.ok r2 KeepE.refl (v :: vs) ⟨?_, rs⟩
    have q := rv.le (r1.le k2)
    cases k <;> first | exact q | (simp [isRv] at n)
  · refine (pa_cons h t hs).weak fun σ H Q ⟨O, σd, hr, hg⟩ => ?_
    obtain ⟨d, ed, hg⟩ := Go.get (g := fun d => (evbs ks l σd).bind fun q => .ok (d :: q.1, q.2)) (by
      have e1 : evbs (.cons (.rv i) ks) l σd = ((getS σd i).bind fun d => (evbs ks l σd).bind fun q => .ok (d :: q.1, q.2)) := by
        show ((getS σd i).bind fun d => R.ok (d, σd)).bind _ = _
        cases getS σd i <;> rfl
      rw [← e1]; exact hg)
    obtain ⟨v, e2, _⟩ := hr.slot i d ed
    refine ⟨v, e2, O, σd, hr, (Go.bind (r := evbs ks l σd) hg).imp fun ds σ2 H2 _ r2 k2 g2 vs rs => g2.ok r2 KeepE.refl (v :: vs) ⟨e2, rs⟩⟩
/-! ### displays -/
theorem s_tup {es : List Expr} {ks : Es} {l : Lv} {x1 pos} (h : PA X es (TAe Z c W (evs ks l))) (hK : X.K = Z.K) : PE X (.Tuple es x1 pos) (TEe Z c W (tP Z) (ev (.tup ks) l)) :=
  (pe_tup h).weak fun σ H Q ⟨O, σd, hr, hg⟩ => ⟨O, σd, hr, (Go.bind (r := evs ks l σd) hg).imp fun ds σ1 H1 _ r1 k1 g vs rs => by
    obtain ⟨hl, g⟩ := g.iff
    have hl' : vs.length ≤ sizeLine := by rw [← rs.length]; exact hl
    refine ⟨hl', fun p hp => ?_⟩
    obtain ⟨a1, a2, a3, a4, a5⟩ := r1.new hp (.tup vs) nt_tup
    exact g.ok a1 a2 _ (.tup (.inl (.inl a5)) (rs.le a4))⟩
theorem s_lst {es : List Expr} {ks : Es} {l : Lv} {pos} (h : PA X es (TAe Z c W (evs ks l))) : PE X (.List es pos) (TFe Z c W (ev (.lst ks) l)) :=
  (pe_lst h).weak fun σ H Q ⟨O, σd, hr, hg⟩ => ⟨O, σd, hr, (Go.bind (r := evs ks l σd) hg).imp fun ds σ1 H1 _ r1 k1 g vs rs => by
    obtain ⟨hl, g⟩ := g.iff
    have hl' : vs.length ≤ sizeLine := by rw [← rs.length]; exact hl
    exact ⟨hl', RetF.newL g r1 (fun p hp => hr.back r1 k1 hp) rs⟩⟩
/-! ### two operands -/
/-- the left operand, as it stands behind the right one -/
theorem rr_ok {k : E} {d x : D} {v : V} (hr : RelS Z c O σd σ H) (e : rr k d σd = .ok x) (h : match k with | .rv i => σ[i]? = some (some v) | _ => Rep Z (hide H O) d v) (ho : ∀ i, k = .rv i → i ∈ c.own ∨ i ∈ c.bor) : RB Z H O x v := by
  cases k with
  | rv i =>
    obtain ⟨w, e2, h2, h3, h4⟩ := hr.slot i x (getS_ok e)
    have e2' : some (some w) = some (some v) := by rw [← e2]; exact h
    obtain rfl : w = v := by simpa using e2'
    by_cases hw : i ∈ c.own
    · obtain ⟨a, ea, ct⟩ := h2 hw
      exact .inr ⟨a, ea, hr.own i hw a (by rw [e2, ea]), ct⟩
    · rcases ho i rfl with n | n
      · exact absurd n hw
      · exact (h3 hw n).rb
  | _ =>
    have e' : d = x := by simpa [rr] using e
    subst e'
    exact .inl h
theorem rr_ne {k : E} {d : D} : ∀ q, rr k d σd ≠ .exc q := by
  intro q e
  cases k <;> first | (exact getS_ne q e) | (simp [rr] at e)
/-- an operand: plain, or a restricted name -/
structure Opd (X : Cx) (Z : Wd) (c : Pl) (W : WX) (l : Lv) (e : Expr) (k : E) : Prop where
  at_ : (isRv k = false ∧ PE X e (TEe Z c W (tP Z) (ev k l))) ∨ (∃ i, k = .rv i ∧ PE X e (tVar i) ∧ (i ∈ c.own ∨ i ∈ c.bor))
theorem Opd.rvIn {l : Lv} {e : Expr} {k : E} (h : Opd X Z c W l e k) : ∀ i, k = .rv i → i ∈ c.own ∨ i ∈ c.bor := fun i ei => by
  rcases h.at_ with ⟨n, _⟩ | ⟨j, ej, _, q⟩
  · rw [ei] at n; simp [isRv] at n
  · rw [ei] at ej
    obtain rfl : i = j := by simpa using ej
    exact q
theorem Opd.lent {l : Lv} {e : Expr} {k : E} (h : Opd X Z c W l e k) : PE X e (TEe Z c W (tL Z) (fun σ => lent k (ev k l σ) σ)) := by
  rcases h.at_ with ⟨n, h⟩ | ⟨i, rfl, h, q⟩
  · exact s_lent h n
  · exact s_rv h q
/-- a relation that is kept while others are evaluated -/
def tK (Z : Wd) (O : Addr → Prop) (σ : L2.St) (k : E) (H : Hp) (d : D) (v : V) : Prop := match k with
  | .rv i => σ[i]? = some (some v)
  | _ => Rep Z (hide H O) d v
def TKe (Z : Wd) (c : Pl) (W : WX) (k : E) (f : Sd → R (D × Sd)) : TE := fun σ H Q => ∃ O σd, RelS Z c O σd σ H ∧ Go Z c W (f σd) O σ H fun d _ H' => ∀ v, tK Z O σ k H' d v → Q v H'
theorem Opd.kept {l : Lv} {e : Expr} {k : E} (h : Opd X Z c W l e k) : PE X e (TKe Z c W k (fun σ => BF.lent k (ev k l σ) σ)) := by
  rcases h.at_ with ⟨n, h⟩ | ⟨i, rfl, h, q⟩
  · refine h.weak fun σ H Q ⟨O, σd, hr, hg⟩ => ⟨O, σd, hr, ?_⟩
    have e1 : BF.lent k (ev k l σd) σd = ev k l σd := by cases k <;> first | rfl | (simp [isRv] at n)
    dsimp only at hg
    rw [e1] at hg
    refine hg.imp fun d σ1 H1 _ _ _ q v r => q v ?_
    cases k <;> first | exact r | (simp [isRv] at n)
  · refine h.weak fun σ H Q ⟨O, σd, hr, hg⟩ => ?_
    obtain ⟨d, ed, hg⟩ := Go.get (show Go Z c W ((getS σd i).bind fun d => .ok (d, σd)) O σ H _ from hg)
    obtain ⟨v, e2, _⟩ := hr.slot i d ed
    exact ⟨v, e2, hg.ok hr KeepE.refl v e2⟩
theorem tK_keep {k : E} {d : D} {v : V} (hr : RelS Z c O σd σ H) (hk : KeepE c σ H H') (t : tK Z O σ k H d v) : tK Z O σ k H' d v := by
  cases k <;> first | exact t | exact Rep.le (hr.le hk) t
/-- a two-place operation by values: r must be shown of the values told -/
theorem s_op2 {a b : Expr} {ka kb : E} {l : Lv} {r : R2} {f : D → D → Option D} {e : Expr} (ha : Opd X Z c W l a ka) (hb : Opd X Z c W l b kb) (hp : ∀ ta tb, PE X a ta → PE X b tb → PE X e (tOp r ta tb))
    (hr : ∀ O σd σ H0 H da db d va vb Q, RelS Z c O σd σ H → (∀ p, Fre H p → Fre H0 p) → RB Z H O da va → RB Z H O db vb → f da db = some d → RetF Z c W O σ H0 σd H d Q → r va vb H Q) :
    PE X e (TFe Z c W (fun σ => (BF.lent ka (ev ka l σ) σ).bind fun p => (BF.lent kb (ev kb l p.2) p.2).bind fun q => (rr ka p.1 q.2).bind fun x => (R.ofO (f x q.1)).bind fun d => .ok (d, q.2))) :=
  (hp _ _ ha.kept hb.lent).weak fun σ H Q ⟨O, σd, h0, hg⟩ => by
    refine ⟨O, σd, h0, (Go.bind (r := BF.lent ka (ev ka l σd) σd) hg).imp fun da σ1 H1 _ r1 k1 g va tka => ⟨O, σ1, r1, (Go.bind (r := BF.lent kb (ev kb l σ1) σ1) g).imp fun db σ2 H2 _ r2 k2 g2 vb rb => ?_⟩⟩
    obtain ⟨x, ex, g3⟩ := g2.pure rr_ne
    obtain ⟨d, ed, g4⟩ := g3.opt
    exact hr O σ2 σ H H2 x db d va vb Q r2 (fun p hp => h0.back r2 (k1.trans k2) hp) (rr_ok r2 ex (by have t := tK_keep r1 k2 tka; cases ka <;> exact t) ha.rvIn) rb ed g4
end
end BF

/-! MulT -/
set_option Elab.async false
set_option linter.all false
set_option maxRecDepth 100000
set_option maxHeartbeats 4000000
/-! tuple * int where the tuple is empty or the number is at most one -/
namespace BF
open PySem PySem.Spec PyProof.Rows L2
theorem tuple_mulS (l : Addr) (items : Array Value) (n : Nat) (dd : Option Addr) (sl : Array (Option Value)) (x : Int) (u : Tok) (c0 : (decide (x < -(2 ^ 63)) || decide (x ≥ 2 ^ 63)) = false) (c1 : (items.isEmpty || x == 1) = true) :
    Meets (Builtin.«tuple.__mul__» ⟨[.ref l, .int x u], []⟩) (fun _ R s => s.heap.get? l = some { cls := .type "tuple", dict := dd, data := .seq items n, slots := sl } ∧ R (.ok (.ret (Value.ref l))) s) :=
  .of_wp fun prog w A R s h => by
    obtain ⟨hp, g, d, tk, os⟩ := s
    obtain ⟨hl, h⟩ := h
    have f1 := AutoSeq1.idx_int
    wp_walk using wpAny_loadPart' hl
    repeat (first
      | (refine wpAny_ite_false (decide_eq_false (by rw [c0]; exact Bool.false_ne_true)) ?_; wp_walk using wpAny_loadPart' hl)
      | (refine wpAny_ite_true (decide_eq_true c1) ?_; wp_walk using wpAny_loadPart' hl))
    exact ⟨_, rfl, h⟩
theorem tuple_mulE (l : Addr) (items : Array Value) (n : Nat) (dd : Option Addr) (sl : Array (Option Value)) (x : Int) (u : Tok) (c0 : (decide (x < -(2 ^ 63)) || decide (x ≥ 2 ^ 63)) = false) (c1 : (items.isEmpty || x == 1) = false) (c2 : (decide (x ≤ 0) || items.isEmpty) = true) :
    Meets (Builtin.«tuple.__mul__» ⟨[.ref l, .int x u], []⟩) (fun _ R s => s.heap.get? l = some { cls := .type "tuple", dict := dd, data := .seq items n, slots := sl } ∧
      R (.ok (.ret (Value.ref s.heap.objs.size))) { s with heap := s.heap.push { cls := Value.type "tuple", data := Data.seq #[] }, toks := s.toks }) :=
  .of_wp fun prog w A R s h => by
    obtain ⟨hp, g, d, tk, os⟩ := s
    obtain ⟨hl, h⟩ := h
    have f1 := AutoSeq1.idx_int
    wp_walk using wpAny_loadPart' hl
    repeat (first
      | (refine wpAny_ite_false (decide_eq_false (by rw [c0]; exact Bool.false_ne_true)) ?_; wp_walk using wpAny_loadPart' hl)
      | (refine wpAny_ite_false (decide_eq_false (by rw [c1]; exact Bool.false_ne_true)) ?_; wp_walk using wpAny_loadPart' hl)
      | (refine wpAny_ite_true (decide_eq_true c2) ?_; wp_walk using wpAny_loadPart' hl))
    exact ⟨_, rfl, h⟩
def rRepU (K : PySem.W.Frag) : R2 := fun x y H Q => ∃ l k xs, x = .ref l ∧ y = .int k ∧ SqT K H l xs ∧ -1000 ≤ k ∧ k ≤ 1000 ∧ (xs = [] ∨ k ≤ 1) ∧ ((xs = [] ∨ k = 1) → Q (.ref l) H) ∧ (xs ≠ [] → k ≤ 0 → ∀ p, H p = none → Q (.ref p) (upd H p (.tup [])))
section
variable {X : Cx}
theorem op_repU : OpR X (binaryOp .Mult) (rRepU X.K) := by
  intro pins s σ H x y v u Q I rx ry h
  obtain ⟨l, k, xs, rfl, rfl, hT, h1, h2, h3, q1, q2⟩ := h
  cases rx
  obtain ⟨t, rfl⟩ := ry
  obtain ⟨its, r, ⟨⟨cls, dd, data, sl⟩, ho, hc, n, hd⟩, hs⟩ := I.tuple hT
  simp only at hc hd
  subst hc hd
  have hle : its.length = xs.length := r.length.symm
  have c0 : (decide (k < -(2 ^ 63)) || decide (k ≥ 2 ^ 63)) = false := by
    rw [decide_eq_false (by omega), decide_eq_false (by omega)] <;> rfl
  have hi : its.toArray.isEmpty = decide (xs = []) := by
    cases its with
    | nil =>
      have : xs = [] := List.eq_nil_of_length_eq_zero hle.symm
      rw [this]; rfl
    | cons a b =>
      have : xs ≠ [] := fun e => by rw [e] at hle; simp at hle
      rw [decide_eq_false this]; rfl
  by_cases hx : xs = [] ∨ k = 1
  · have c1 : (its.toArray.isEmpty || k == 1) = true := by
      rw [hi]
      rcases hx with e | e
      · rw [decide_eq_true e]; rfl
      · rw [e, Bool.or_comm]; rfl
    refine wpAny_binaryOp_repeat_ref (T := "tuple") (U := "int") (by decide) ⟨_, ho, rfl⟩ (fun s' => typeIs_int s' k t) noFill_tuple_mul F.fills_int_mul F.slot_int_rmul repeat_tuple F.slot_int_index.lookup
      (call_meets F.slot_int_rmul (typeIs_int s k t) F.entry_int_rmul (F.args_int_rmul_2 _ _) (int_rmul_tuple k t l its.toArray n dd sl)
        ⟨ho, rfl, ⟨_, ho, rfl⟩, call_meets F.slot_tuple_mul ⟨_, ho, rfl⟩ F.entry_tuple_mul (F.args_tuple_mul_2 _ _) (tuple_mulS l its.toArray n dd sl k t c0 c1) ⟨ho, ?_⟩⟩)
    exact ⟨.ref l, H, I, rfl, q1 hx⟩
  · have hxn : xs ≠ [] := fun e => hx (.inl e)
    have hk1 : k ≠ 1 := fun e => hx (.inr e)
    have hk : k ≤ 0 := by
      rcases h3 with e | e
      · exact absurd e hxn
      · omega
    have c1 : (its.toArray.isEmpty || k == 1) = false := by
      rw [hi, decide_eq_false hxn, Bool.false_or]
      exact beq_eq_false_iff_ne.mpr hk1
    have c2 : (decide (k ≤ 0) || its.toArray.isEmpty) = true := by
      rw [decide_eq_true hk]; rfl
    refine wpAny_binaryOp_repeat_ref (T := "tuple") (U := "int") (by decide) ⟨_, ho, rfl⟩ (fun s' => typeIs_int s' k t) noFill_tuple_mul F.fills_int_mul F.slot_int_rmul repeat_tuple F.slot_int_index.lookup
      (call_meets F.slot_int_rmul (typeIs_int s k t) F.entry_int_rmul (F.args_int_rmul_2 _ _) (int_rmul_tuple k t l its.toArray n dd sl)
        ⟨ho, rfl, ⟨_, ho, rfl⟩, call_meets F.slot_tuple_mul ⟨_, ho, rfl⟩ F.entry_tuple_mul (F.args_tuple_mul_2 _ _) (tuple_mulE l its.toArray n dd sl k t c0 c1 c2) ⟨ho, ?_⟩⟩)
    refine ⟨.ref s.heap.objs.size, _, I.laid (t' := s.toks) (o := .tup []) (fun b ob q => Heap.get?_push_of_some _ q) (Nat.le_refl _) ?_, rfl, q2 hxn hk _ (I.hok.fresh (Nat.le_refl _))⟩
    exact ⟨Nat.zero_le _, _, .nil, IsTup.new _ _⟩
end
end BF

/-! Snd2 -/
set_option Elab.async false
set_option linter.all false
set_option maxRecDepth 100000
set_option maxHeartbeats 2000000
namespace BF
open PySem L2

section
variable {Z : Wd} {c : Pl} {W : WX} {O : Addr → Prop} {σ : L2.St} {σd : Sd} {H H' : Hp} {X : Cx}
/-! ### values by their kinds -/
theorem RB.non {v : V} (r : RB Z H O .non v) : v = .non := by cases r.rep; rfl
theorem RB.bl {b : Bool} {v : V} (r : RB Z H O (.bl b) v) : v = .bl b := by cases r.rep; rfl
theorem RB.int {i : Int} {v : V} (r : RB Z H O (.int i) v) : v = .int i := by cases r.rep; rfl
theorem RB.str {i : Str} {v : V} (r : RB Z H O (.str i) v) : v = .str i := by cases r.rep; rfl

/-! ### operators -/
def mapOp : Op2 → Operator
  | .add => .Add | .sub => .Sub | .mul => .Mult | .fdiv => .FloorDiv | .mod => .Mod | .pow => .Pow | .shl => .LShift | .shr => .RShift | .band => .BitAnd | .bor => .BitOr | .bxor => .BitXor
theorem op2_map {o : Operator} {k : Op2} (h : op2 o = some k) : mapOp k = o := by
  cases o <;> simp [op2] at h <;> subst h <;> rfl
theorem bitAnd_nn {i j : Int} (hi : 0 ≤ i) (hj : 0 ≤ j) : Builtin.bitAnd i j = ((i.toNat &&& j.toNat : Nat) : Int) := by
  unfold Builtin.bitAnd
  rw [decide_eq_true hi, decide_eq_true hj]
theorem bitNot_neg {i : Int} (hi : 0 ≤ i) : ¬ 0 ≤ Builtin.bitNot i := by unfold Builtin.bitNot; omega
theorem bitOr_nn {i j : Int} (hi : 0 ≤ i) (hj : 0 ≤ j) : Builtin.bitOr i j = ((i.toNat ||| j.toNat : Nat) : Int) := by
  unfold Builtin.bitOr Builtin.bitAnd
  rw [decide_eq_false (bitNot_neg hi), decide_eq_false (bitNot_neg hj)]
  have e1 : Builtin.bitNot (Builtin.bitNot i) = i := by unfold Builtin.bitNot; omega
  have e2 : Builtin.bitNot (Builtin.bitNot j) = j := by unfold Builtin.bitNot; omega
  show Builtin.bitNot (Builtin.bitNot _) = _
  rw [e1, e2]
  unfold Builtin.bitNot
  omega
theorem and_add_orN : ∀ (n a b : Nat), a ≤ n → (a ||| b) = (a ^^^ b) + (a &&& b)
  | 0, a, b, h => by
    obtain rfl : a = 0 := by omega
    simp
  | n + 1, a, b, h => by
    have ih := fun h' => and_add_orN n (a / 2) (b / 2) h'
    by_cases h0 : a = 0
    · subst h0; simp
    have ih := ih (by omega)
    have e1 := @Nat.or_div_two a b
    have e2 := @Nat.xor_div_two a b
    have e3 := @Nat.and_div_two a b
    have f1 := @Nat.and_mod_two_eq_one a b
    have f2 := @Nat.or_mod_two_eq_one a b
    have f3 := @Nat.xor_mod_two_eq_one a b
    rw [← e1, ← e2, ← e3] at ih
    omega
theorem and_add_or (a b : Nat) : (a ||| b) = (a ^^^ b) + (a &&& b) := and_add_orN a a b (Nat.le_refl _)
theorem bitXor_nn {i j : Int} (hi : 0 ≤ i) (hj : 0 ≤ j) : Builtin.bitXor i j = ((i.toNat ^^^ j.toNat : Nat) : Int) := by
  unfold Builtin.bitXor
  rw [bitOr_nn hi hj, bitAnd_nn hi hj, and_add_or]
  omega
/-- what is asked of two values at an operator -/
def rBin (K : PySem.W.Frag) (o : Op2) : R2 := match o with
  | .add => fun x y H Q => ((rI0 (fun i j => .int (i + j)) x y H Q ∨ rCat x y H Q) ∨ rCatA K x y H Q) ∨ (∃ i j, x = .str i ∧ y = .str j ∧ i.length + j.length ≤ sizeLine ∧ Q (.str (i ++ j)) H)
  | .sub => rI0 fun i j => .int (i - j)
  | .mul => fun x y H Q => (rI CMul (fun i j => .int (i * j)) x y H Q ∨ rRep x y H Q) ∨ rRepT K x y H Q ∨ rRepU K x y H Q
  | .fdiv => rI CDiv fun i j => .int (i / j)
  | .mod => rI (fun _ j => 0 < j) fun i j => .int (i % j)
  | .pow => rI CPow fun i j => .int (i ^ j.toNat)
  | .shl => rI CPow fun i j => .int (i * 2 ^ j.toNat)
  | .shr => rI (fun _ j => 0 ≤ j) fun i j => .int (i / 2 ^ j.toNat)
  | .band => rI0 fun i j => .int (Builtin.bitAnd i j)
  | .bor => rI0 fun i j => .int (Builtin.bitOr i j)
  | .bxor => rI0 fun i j => .int (Builtin.bitXor i j)
theorem opR_bin (o : Op2) : OpR X (binaryOp (mapOp o)) (rBin X.K o) := by
  cases o
  · exact ((op_add.or op_cat).or op_catA).or op_add_str
  · exact op_sub
  · exact (op_mul.or op_rep).or (op_repT.or op_repU)
  · exact op_fdiv
  · exact op_mod
  · exact op_pow
  · exact op_shl
  · exact op_shr
  · exact op_and
  · exact op_or
  · exact op_xor
theorem Go.done {d : D} {Q : VK} (g : Go Z c W (.ok (d, σd)) O σ H (fun d _ H' => ∀ v, Rep Z (hide H' O) d v → Q v H')) (r : RelS Z c O σd σ H) {v : V} (hv : Rep Z (hide H O) d v) : Q v H := g.ok r KeepE.refl v hv
theorem Go.new {d : D} {Q : VK} (g : Go Z c W (.ok (d, σd)) O σ H (fun d _ H' => ∀ v, Rep Z (hide H' O) d v → Q v H')) (r : RelS Z c O σd σ H) (o : HO) (t : NT o) (h : ∀ p G, Le (hide H O) G → G p = some o → Rep Z G d (.ref p)) : ∀ p, H p = none → Q (.ref p) (upd H p o) := fun p hp => by
  obtain ⟨a1, a2, a3, a4, a5⟩ := r.new hp o t
  exact g.ok a1 a2 _ (h p _ a4 a5)
theorem bin_ok (hK : X.K = Z.K) {o : Op2} {da db d : D} {va vb : V} {Q : VK} {H0 : Hp} (r : RelS Z c O σd σ H) (hb0 : ∀ p, Fre H p → Fre H0 p) (ra : RB Z H O da va) (rb : RB Z H O db vb) (e : bop o da db = some d)
    (g : RetF Z c W O σ H0 σd H d Q) : rBin X.K o va vb H Q := by
  cases da with
  | int i =>
    cases db with
    | int j =>
      obtain rfl := ra.int
      obtain rfl := rb.int
      have e' : (opI o i j).map D.int = some d := e
      obtain ⟨k, ek, rfl⟩ := Option.map_eq_some_iff.mp e'
      have q := g.done r rfl (.int k)
      cases o <;> simp only [opI] at ek
      · cases ek; exact .inl (.inl (.inl ⟨i, j, rfl, rfl, q⟩))
      · cases ek; exact ⟨i, j, rfl, rfl, q⟩
      · split at ek
        · rename_i hc; cases ek; exact .inl (.inl ⟨i, j, rfl, rfl, hc, q⟩)
        · cases ek
      · split at ek
        · rename_i hc; cases ek; exact ⟨i, j, rfl, rfl, hc, q⟩
        · cases ek
      · split at ek
        · rename_i hc; cases ek; exact ⟨i, j, rfl, rfl, hc, q⟩
        · cases ek
      · split at ek
        · rename_i hc; cases ek; exact ⟨i, j, rfl, rfl, hc, q⟩
        · cases ek
      · split at ek
        · rename_i hc; cases ek; exact ⟨i, j, rfl, rfl, hc, q⟩
        · cases ek
      · split at ek
        · rename_i hc; cases ek; exact ⟨i, j, rfl, rfl, hc, q⟩
        · cases ek
      · split at ek
        · rename_i hc; cases ek; exact ⟨i, j, rfl, rfl, (show Q (.int (Builtin.bitAnd i j)) H by rw [bitAnd_nn hc.1 hc.2]; exact q)⟩
        · cases ek
      · split at ek
        · rename_i hc; cases ek; exact ⟨i, j, rfl, rfl, (show Q (.int (Builtin.bitOr i j)) H by rw [bitOr_nn hc.1 hc.2]; exact q)⟩
        · cases ek
      · split at ek
        · rename_i hc; cases ek; exact ⟨i, j, rfl, rfl, (show Q (.int (Builtin.bitXor i j)) H by rw [bitXor_nn hc.1 hc.2]; exact q)⟩
        · cases ek
    | _ => simp [bop] at e
  | str x =>
    cases db with
    | str y =>
      obtain rfl := ra.str
      obtain rfl := rb.str
      cases o <;> simp only [bop] at e <;> try (cases e; done)
      split at e
      · rename_i hc; cases e; exact .inr ⟨x, y, rfl, rfl, hc, g.done r rfl (.str _)⟩
      · cases e
    | _ => simp [bop] at e
  | lst xs =>
    obtain ⟨a, vs, rfl, ha, rs⟩ := ra.lst
    cases db with
    | lst ys =>
      obtain ⟨b, ws, rfl, hb, ss⟩ := rb.lst
      cases o <;> simp only [bop] at e <;> try (cases e; done)
      split at e
      · rename_i hc
        cases e
        refine .inl (.inl (.inr ⟨a, b, vs, ws, rfl, rfl, ha, hb, by rw [← rs.length, ← ss.length]; exact hc, ?_⟩))
        exact g.newL r hb0 (rs.append ss)
      · cases e
    | int k =>
      obtain rfl := rb.int
      cases o <;> simp only [bop] at e <;> try (cases e; done)
      split at e
      · rename_i hc
        cases e
        refine .inl (.inr ⟨a, k, vs, rfl, rfl, ha, hc.1, hc.2.1, by rw [← rs.length]; exact hc.2.2, ?_⟩)
        exact g.newL r hb0 (rs.rep k.toNat)
      · cases e
    | _ => simp [bop] at e
  | tup xs =>
    obtain ⟨a, vs, rfl, ha, rs⟩ := ra.tup
    rw [← hK] at ha
    cases db with
    | tup ys =>
      obtain ⟨b, ws, rfl, hb, ss⟩ := rb.tup
      rw [← hK] at hb
      cases o <;> simp only [bop] at e <;> try (cases e; done)
      split at e
      · rename_i hc
        cases e
        refine .inl (.inr ⟨a, b, vs, ws, rfl, rfl, ha, hb, by rw [← rs.length, ← ss.length]; exact hc, fun h1 => ?_, fun h1 h2 => ?_, fun h1 h2 => ?_⟩)
        · subst h1
          cases rs
          rw [List.nil_append] at g
          rcases rb with rb | ⟨b', eb, _, cb⟩
          · exact g.done r rfl rb
          · exact cb.elim
        · subst h2
          cases ss
          rw [List.append_nil] at g
          rcases ra with ra | ⟨b', eb, _, cb⟩
          · exact g.done r rfl ra
          · exact cb.elim
        · exact g.newT r (rs.append ss)
      · cases e
    | int k =>
      obtain rfl := rb.int
      cases o <;> simp only [bop] at e <;> try (cases e; done)
      split at e
      · rename_i hc
        cases e
        by_cases hz : vs = [] ∨ k ≤ 1
        · refine .inr (.inr ⟨a, k, vs, rfl, rfl, ha, hc.1, hc.2.1, hz, fun h => ?_, fun h1 h2 => ?_⟩)
          · have ex : rep k xs = xs := by
              unfold rep
              rcases h with h | h
              · subst h
                cases rs
                induction k.toNat with
                | zero => rfl
                | succ m ih => rw [List.replicate_succ, List.flatten_cons, ih]; rfl
              · subst h
                show (xs ++ []) = xs
                rw [List.append_nil]
            rw [ex] at g
            rcases ra with ra | ⟨b', eb, _, cb⟩
            · exact g.done r rfl ra
            · exact cb.elim
          · have ex : rep k xs = [] := by
              unfold rep
              rw [show k.toNat = 0 by omega]
              rfl
            rw [ex] at g
            exact g.newT r .nil
        · have hz1 : vs ≠ [] := fun e => hz (.inl e)
          have hz2 : 2 ≤ k := by
            refine Decidable.byContradiction fun e => hz (.inr ?_)
            omega
          exact .inr (.inl ⟨a, k, vs, rfl, rfl, ha, hz1, hz2, hc.2.1, by rw [← rs.length]; exact hc.2.2, g.newT r (rs.rep k.toNat)⟩)
      · cases e
    | _ => simp [bop] at e
  | _ => simp [bop] at e
theorem s_bin (hK : X.K = Z.K) {o : Op2} {a b : Expr} {ka kb : E} {l : Lv} {pos : Pos} (ha : Opd X Z c W l a ka) (hb : Opd X Z c W l b kb) : PE X (.BinOp a (mapOp o) b pos) (TFe Z c W (ev (.bin o ka kb) l)) :=
  s_op2 ha hb (fun ta tb h1 h2 => pe_op (opR_bin o) h1 h2) fun O σd σ H0 H da db d va vb Q r h0 ra rb e g => bin_ok hK r h0 ra rb e g
end
end BF

/-! Snd3 -/
set_option Elab.async false
set_option linter.all false
set_option maxRecDepth 100000
set_option maxHeartbeats 2000000
namespace BF
open PySem L2

/-! ### data -/
mutual
def toPy : D → PyData
  | .bl b => .bool b
  | .int i => .int i
  | .str x => .str x
  | .tup xs => .tuple (toPys xs)
  | .lst xs => .list (toPys xs)
  | _ => .none
def toPys : List D → List PyData
  | [] => []
  | x :: xs => toPy x :: toPys xs
end
mutual
theorem dp_ok : ∀ (n : Nat) (d : D), dp n d = true → (toPy d).canLay0 = true ∧ (toPy d).depth ≤ n
  | n, .non, _ => ⟨by simp [toPy, PyData.canLay0], by simp [toPy, PyData.depth]⟩
  | n, .bl b, _ => ⟨by simp [toPy, PyData.canLay0], by simp [toPy, PyData.depth]⟩
  | n, .int b, _ => ⟨by simp [toPy, PyData.canLay0], by simp [toPy, PyData.depth]⟩
  | n, .str b, h => ⟨by simp only [dp] at h; simp only [toPy, PyData.canLay0, PyData.strOk]; exact h, by simp [toPy, PyData.depth]⟩
  | 0, .tup xs, h => by simp [dp] at h
  | 0, .lst xs, h => by simp [dp] at h
  | n + 1, .tup xs, h => by
    obtain ⟨h1, h2⟩ := dps_ok n xs (by simpa [dp] using h)
    exact ⟨by simpa [toPy, PyData.canLay0] using h1, by simp only [toPy, PyData.depth]; omega⟩
  | n + 1, .lst xs, h => by
    obtain ⟨h1, h2⟩ := dps_ok n xs (by simpa [dp] using h)
    exact ⟨by simpa [toPy, PyData.canLay0] using h1, by simp only [toPy, PyData.depth]; omega⟩
  | n, .dic _, h => by cases n <;> simp [dp] at h
  | n, .fn _, h => by cases n <;> simp [dp] at h
  | n, .frz _, h => by cases n <;> simp [dp] at h
theorem dps_ok : ∀ (n : Nat) (d : List D), dps n d = true → PyData.canLayAll0 (toPys d) = true ∧ PyData.depthAll (toPys d) ≤ n
  | n, [], _ => ⟨by simp [toPys, PyData.canLayAll0], by simp [toPys, PyData.depthAll]⟩
  | n, x :: xs, h => by
    have h' : dp n x = true ∧ dps n xs = true := by simpa [dps] using h
    obtain ⟨a1, a2⟩ := dp_ok n x h'.1
    obtain ⟨b1, b2⟩ := dps_ok n xs h'.2
    exact ⟨by simp [toPys, PyData.canLayAll0, a1, b1], by simp only [toPys, PyData.depthAll]; omega⟩
end
theorem dp_shaped {d : D} (h : dp 60 d = true) : SeqAt.shaped (toPy d) = true := by
  obtain ⟨a, b⟩ := dp_ok 60 d h
  unfold SeqAt.shaped
  rw [a, decide_eq_true (by omega)]
  rfl
mutual
theorem Rep.dp {Z : Wd} {H : Hp} : ∀ (n : Nat) (d : D) (v : V), Rep Z H d v → BF.dp n d = true → Dp Z.K H v (toPy d)
  | n, .non, _, .non, _ => by simp only [toPy]; exact .non
  | n, .bl b, _, .bl _, _ => by simp only [toPy]; exact .bl b
  | n, .int b, _, .int _, _ => by simp only [toPy]; exact .int b
  | n, .str b, _, .str _, h => by simp only [toPy]; exact .str b
  | 0, .tup xs, _, _, h => by simp [BF.dp] at h
  | 0, .lst xs, _, _, h => by simp [BF.dp] at h
  | n + 1, .tup xs, _, .tup s r, h => by simp only [toPy]; exact .tup s (Reps.dp n xs _ r (by simpa [BF.dp] using h))
  | n + 1, .lst xs, _, .lst s r, h => by simp only [toPy]; exact .lst (SqL.of s) (Reps.dp n xs _ r (by simpa [BF.dp] using h))
  | n, .dic _, _, _, h => by cases n <;> simp [BF.dp] at h
  | n, .fn _, _, _, h => by cases n <;> simp [BF.dp] at h
  | n, .frz _, _, _, h => by cases n <;> simp [BF.dp] at h
theorem Reps.dp {Z : Wd} {H : Hp} : ∀ (n : Nat) (d : List D) (v : List V), Reps Z H d v → dps n d = true → DpAll Z.K H v (toPys d)
  | n, [], _, .nil, _ => by simp only [toPys]; exact .nil
  | n, x :: xs, _, .cons a b, h => by
    have h' : BF.dp n x = true ∧ dps n xs = true := by simpa [dps] using h
    simp only [toPys]
    exact .cons (Rep.dp n x _ a h'.1) (Reps.dp n xs _ b h'.2)
end
mutual
theorem deq_py : ∀ (n m : Nat) (a b : D), dp n a = true → dp m b = true → deq a b = PyData.eqv (toPy a) (toPy b)
  | n, m, a, b, ha, hb => by
    cases a <;> cases b <;> first
      | (simp [dp] at ha; done) | (simp [dp] at hb; done)
      | (simp only [deq, toPy, PyData.eqv]; done)
      | (cases n <;> simp [dp] at ha; done) | (cases m <;> simp [dp] at hb; done)
      | skip
    · rename_i xs ys
      cases n with
      | zero => simp [dp] at ha
      | succ n => cases m with
        | zero => simp [dp] at hb
        | succ m =>
          simp only [deq, toPy, PyData.eqv]
          exact deqs_py n m xs ys (by simpa [dp] using ha) (by simpa [dp] using hb)
    · rename_i xs ys
      cases n with
      | zero => simp [dp] at ha
      | succ n => cases m with
        | zero => simp [dp] at hb
        | succ m =>
          simp only [deq, toPy, PyData.eqv]
          exact deqs_py n m xs ys (by simpa [dp] using ha) (by simpa [dp] using hb)
theorem deqs_py : ∀ (n m : Nat) (a b : List D), dps n a = true → dps m b = true → deqs a b = PyData.eqvAll (toPys a) (toPys b)
  | n, m, [], [], _, _ => by simp [deqs, toPys, PyData.eqvAll]
  | n, m, [], _ :: _, _, _ => by simp [deqs, toPys, PyData.eqvAll]
  | n, m, _ :: _, [], _, _ => by simp [deqs, toPys, PyData.eqvAll]
  | n, m, x :: xs, y :: ys, ha, hb => by
    have h1 : dp n x = true ∧ dps n xs = true := by simpa [dps] using ha
    have h2 : dp m y = true ∧ dps m ys = true := by simpa [dps] using hb
    simp only [deqs, toPys, PyData.eqvAll, deq_py n m x y h1.1 h2.1, deqs_py n m xs ys h1.2 h2.2]
end
end BF

/-! Snd4 -/
set_option Elab.async false
set_option linter.all false
set_option maxRecDepth 100000
set_option maxHeartbeats 2000000
namespace BF
open PySem L2

section
variable {Z : Wd} {c : Pl} {W : WX} {O : Addr → Prop} {σ : L2.St} {σd : Sd} {H H' : Hp} {X : Cx}
/-! ### dicts with int and text keys -/
theorem keyR_kV {k : D} {q : Key} (h : KeyR k q) : Rep Z H k (kV q) := by
  cases k <;> simp [KeyR] at h <;> subst h
  · exact .int _
  · exact .str _
theorem key_of_rep {k : D} {v : V} (hk : keyD k = true) (r : Rep Z H k v) : ∃ q, KeyR k q ∧ v = kV q := by
  cases k <;> simp [keyD] at hk <;> cases r
  · exact ⟨.inl _, rfl, rfl⟩
  · exact ⟨.inr _, rfl, rfl⟩
theorem deq_key {a b : D} {p q : Key} (ha : KeyR a p) (hb : KeyR b q) : deq a b = decide (p = q) := by
  cases a <;> simp [KeyR] at ha <;> cases b <;> simp [KeyR] at hb <;> subst ha <;> subst hb
  · rename_i i j
    simp only [deq]
    by_cases h : i = j
    · subst h; simp
    · simp [h]
  · simp [deq]
  · simp [deq]
  · rename_i i j
    simp only [deq]
    by_cases h : i = j
    · subst h; simp
    · simp [h]
theorem dget_val : ∀ {kvs : List (D × D)} {ks : List (Key × V)} {k : D} {q : Key}, RepK Z H kvs ks → KeyR k q → (match dget kvs k with
    | some d => ∃ v, valV ks q = some v ∧ Rep Z H d v
    | none => valV ks q = none)
  | [], _, k, q, .nil, _ => by simp [dget, valV]
  | (k', d) :: kvs, _, k, q, .cons (q := q') (v := v) h1 h2 h3, hk => by
    have ih := dget_val h3 hk
    have e := deq_key h1 hk
    unfold dget at ih ⊢
    rw [List.find?_cons]
    by_cases hq : q' = q
    · subst hq
      have e' : deq k' k = true := by rw [e]; simp
      simp only [e', Option.map_some]
      exact ⟨v, valV_pos rfl, h2⟩
    · have e' : deq k' k = false := by rw [e]; simp [hq]
      simp only [e']
      rw [valV_neg hq]
      exact ih
theorem dget_any : ∀ {kvs : List (D × D)} {k : D}, (kvs.any fun q => deq q.1 k) = (dget kvs k).isSome
  | [], _ => rfl
  | q :: r, k => by
    unfold dget
    rw [List.any_cons, List.find?_cons, dget_any]
    unfold dget
    cases deq q.1 k <;> simp
def rDIn (neg : Bool) : R2 := fun x y H Q => ∃ a o, y = .ref a ∧ DGet H a x o ∧ Q (.bl (if neg then !o.isSome else o.isSome)) H
theorem op_dIn (hu : X.A.units + 1 < cLine) : OpR X (compareOp .In) (rDIn false) := by
  intro pins s σ H x y v u Q I rx ry h
  obtain ⟨a, o, rfl, g, q⟩ := h
  obtain rfl : u = Value.ref a := ry
  exact d_in hu I g rx fun s' I' => ⟨.bl o.isSome, H, I', rfl, q⟩
theorem op_dNotIn (hu : X.A.units + 1 < cLine) : OpR X (compareOp .NotIn) (rDIn true) := by
  intro pins s σ H x y v u Q I rx ry h
  obtain ⟨a, o, rfl, g, q⟩ := h
  obtain rfl : u = Value.ref a := ry
  exact d_notIn hu I g rx fun s' I' => ⟨.bl (!o.isSome), H, I', rfl, q⟩
/-! ### comparisons -/
def mapCm : Cm → CmpOp
  | .eq => .Eq | .ne => .NotEq | .lt => .Lt | .le => .LtE | .gt => .Gt | .ge => .GtE | .is => .Is | .isn => .IsNot | .isin => .In | .notin => .NotIn
theorem mapCm_cm (o : CmpOp) : mapCm (cm o) = o := by cases o <;> rfl
def rCmp (K : PySem.W.Frag) (o : Cm) : R2 := match o with
  | .eq => fun x y H Q => rEq x y H Q ∨ rEqD K x y H Q
  | .ne => fun x y H Q => rNe x y H Q ∨ rNeD K x y H Q
  | .lt => fun x y H Q => rI0 (fun i j => .bl (decide (i < j))) x y H Q ∨ rLtT K x y H Q
  | .le => rI0 fun i j => .bl (decide (i ≤ j))
  | .gt => rI0 fun i j => .bl (decide (j < i))
  | .ge => rI0 fun i j => .bl (decide (j ≤ i))
  | .is => fun x y H Q => y = .non ∧ Q (.bl (decide (x = .non))) H
  | .isn => fun x y H Q => y = .non ∧ Q (.bl (!decide (x = .non))) H
  | .isin => fun x y H Q => rIn K false x y H Q ∨ rDIn false x y H Q
  | .notin => fun x y H Q => rIn K true x y H Q ∨ rDIn true x y H Q
theorem opR_cmp (hu : X.A.units + 65 < cLine) (o : Cm) : OpR X (compareOp (mapCm o)) (rCmp X.K o) := by
  cases o
  · exact op_eq.or (op_eqD (by omega))
  · exact op_ne.or (op_neD (by omega))
  · exact op_lt.or (op_ltT (by omega))
  · exact op_le
  · exact op_gt
  · exact op_ge
  · exact op_isN
  · exact op_notN
  · exact op_in_seq.or (op_dIn (by omega))
  · exact op_notIn_seq.or (op_dNotIn (by omega))
theorem flat_rep {d : D} {v : V} (r : Rep Z H d v) (h : flat d = true) : flatV v = true := by
  cases r <;> first | rfl | (simp [flat] at h)
theorem flats_rep : ∀ {d : List D} {v : List V}, Reps Z H d v → d.all flat = true → v.all flatV = true
  | _, _, .nil, _ => rfl
  | _, _, .cons a b, h => by
    rw [List.all_cons, Bool.and_eq_true] at h
    rw [List.all_cons, flat_rep a h.1, flats_rep b h.2]
    rfl
theorem deq_flat {a b : D} {va vb : V} (ra : Rep Z H a va) (rb : Rep Z H b vb) (ha : flat a = true) (hb : flat b = true) : deq a b = eqV va vb := by
  cases ra <;> first | (simp [flat] at ha; done) | skip
  all_goals (cases rb <;> first | (simp [flat] at hb; done) | (simp [deq, eqV]))
theorem any_flat : ∀ {xs : List D} {vs : List V} {a : D} {va : V}, Reps Z H xs vs → Rep Z H a va → xs.all flat = true → flat a = true → (xs.any fun y => deq y a) = inV va vs
  | _, _, _, _, .nil, _, _, _ => rfl
  | _, _, a, va, .cons h t, ra, hx, hf => by
    have h' := hx
    rw [List.all_cons, Bool.and_eq_true] at h'
    unfold inV
    rw [List.any_cons, List.any_cons, deq_flat h ra h'.1 hf, any_flat t ra h'.2 hf]
    rfl
theorem scal_ok {a b : D} {va vb : V} (ra : Rep Z H a va) (rb : Rep Z H b vb) (h : scalD a b = true) : scal va vb = true ∧ deq a b = decide (va = vb) := by
  cases ra <;> first | (simp [scalD] at h; done) | skip
  all_goals (cases rb <;> first | (simp [scalD] at h; done) | skip)
  all_goals (refine ⟨rfl, ?_⟩; simp only [deq]; first | (rw [dec_int]; done) | (rw [dec_bl]; done) | (rw [dec_str]; done) | (simp; done))
theorem ints_rep : ∀ {xs : List D} {vs : List V} {is : List Int}, Reps Z H xs vs → dints xs = some is → vs = is.map V.int
  | _, _, is, .nil, e => by simp [dints] at e; subst e; rfl
  | x :: xs, _, is, .cons a b, e => by
    cases x <;> simp [dints] at e
    obtain ⟨is', e1, rfl⟩ := e
    cases a
    rw [ints_rep b e1]
    rfl
theorem lexLt_eq : ∀ xs ys : List Int, lexLt xs ys = HT.lexLt xs ys
  | [], [] => rfl
  | [], _ :: _ => rfl
  | _ :: _, [] => rfl
  | x :: xs, y :: ys => by unfold lexLt HT.lexLt; rw [lexLt_eq xs ys]
theorem cmp_ok (hK : X.K = Z.K) {o : Cm} {da db : D} {k : Bool} {va vb : V} {Q : VK} (r : RelS Z c O σd σ H) (ra : RB Z H O da va) (rb : RB Z H O db vb) (e : cmpD o da db = some k) (q : Q (.bl k) H) : rCmp X.K o va vb H Q := by
  have qa := ra.rep
  have qb := rb.rep
  have eqC : ∀ {k' : Bool}, ceq da db = some k' → (scal va vb = true ∧ k' = decide (va = vb)) ∨ (∃ d e, Dp X.K H va d ∧ Dp X.K H vb e ∧ SeqAt.shaped d = true ∧ SeqAt.shaped e = true ∧ k' = PyData.eqv d e) := by
    intro k' e
    unfold ceq at e
    split at e
    · rename_i hc
      cases e
      by_cases hs : scalD da db = true
      · obtain ⟨s1, s2⟩ := scal_ok qa qb hs
        exact .inl ⟨s1, s2⟩
      · have hd : dp 60 da = true ∧ dp 60 db = true := by
          rcases Bool.or_eq_true_iff.mp hc with z | z
          · exact absurd z hs
          · exact Bool.and_eq_true_iff.mp z
        rw [hK]
        exact .inr ⟨_, _, Rep.dp 60 da va qa hd.1, Rep.dp 60 db vb qb hd.2, dp_shaped hd.1, dp_shaped hd.2, deq_py 60 60 da db hd.1 hd.2⟩
    · cases e
  have inC : ∀ {k' : Bool} {neg : Bool} {Q : VK}, cin da db = some k' → Q (.bl (if neg then !k' else k')) H → rIn X.K neg va vb H Q ∨ rDIn neg va vb H Q := by
    intro k' neg Q e q
    unfold cin at e
    cases db with
    | tup xs =>
      obtain ⟨a, vs, rfl, ha, rs⟩ := rb.tup
      simp only at e
      split at e
      · rename_i hc
        cases e
        obtain ⟨c1, c2⟩ := Bool.and_eq_true_iff.mp hc
        have rs' := rs.le (hide_le H O)
        rw [hK]
        exact .inl ⟨a, vs, rfl, .inr ha, flat_rep qa c1, flats_rep rs' c2, by rw [any_flat rs' qa c2 c1] at q; exact q⟩
      · cases e
    | lst xs =>
      obtain ⟨a, vs, rfl, ha, rs⟩ := rb.lst
      simp only at e
      split at e
      · rename_i hc
        cases e
        obtain ⟨c1, c2⟩ := Bool.and_eq_true_iff.mp hc
        have rs' := rs.le (hide_le H O)
        exact .inl ⟨a, vs, rfl, .inl (SqL.of ha), flat_rep qa c1, flats_rep rs' c2, by rw [any_flat rs' qa c2 c1] at q; exact q⟩
      · cases e
    | dic kvs =>
      obtain ⟨a, ks, rfl, ha, rs⟩ := rb.dic
      have hk : keyD da = true ∧ k' = (kvs.any fun q => deq q.1 da) := by
        cases da <;> simp at e <;> exact ⟨rfl, by rw [← e]⟩
      obtain ⟨p, hp, rfl⟩ := key_of_rep hk.1 qa
      have z := dget_val rs hp
      have hs : k' = (valV ks p).isSome := by
        rw [hk.2, dget_any]
        revert z
        cases dget kvs da with
        | none => intro z; simp only at z; rw [z]; rfl
        | some d => intro z; obtain ⟨v, e1, _⟩ := z; rw [e1]; rfl
      exact .inr ⟨a, _, rfl, DGet.k ha, by rw [← hs]; exact q⟩
    | _ => simp at e
  cases o
  · rcases eqC e with ⟨h1, h2⟩ | ⟨d, e', h1, h2, h3, h4, h5⟩
    · exact .inl ⟨h1, by rw [← h2]; exact q⟩
    · exact .inr ⟨d, e', h1, h2, h3, h4, by rw [← h5]; exact q⟩
  · obtain ⟨k', e1, rfl⟩ := Option.map_eq_some_iff.mp (show (ceq da db).map (!·) = some k from e)
    rcases eqC e1 with ⟨h1, h2⟩ | ⟨d, e', h1, h2, h3, h4, h5⟩
    · exact .inl ⟨h1, by rw [← h2]; exact q⟩
    · exact .inr ⟨d, e', h1, h2, h3, h4, by rw [← h5]; exact q⟩
  · simp only [cmpD] at e
    split at e
    · cases e
      obtain rfl := ra.int
      obtain rfl := rb.int
      exact .inl ⟨_, _, rfl, rfl, q⟩
    · obtain ⟨a, vs, rfl, ha, rs⟩ := ra.tup
      obtain ⟨b, ws, rfl, hb, ss⟩ := rb.tup
      split at e
      · rename_i is js e1 e2
        cases e
        rw [ints_rep rs e1] at ha
        rw [ints_rep ss e2] at hb
        refine .inr ⟨a, b, is, js, rfl, rfl, by rw [hK]; exact ha, by rw [hK]; exact hb, ?_⟩
        rw [← lexLt_eq]; exact q
      · cases e
    · cases e
  · simp only [cmpD] at e
    split at e
    · cases e; obtain rfl := ra.int; obtain rfl := rb.int; exact ⟨_, _, rfl, rfl, q⟩
    · cases e
  · simp only [cmpD] at e
    split at e
    · cases e; obtain rfl := ra.int; obtain rfl := rb.int; exact ⟨_, _, rfl, rfl, q⟩
    · cases e
  · simp only [cmpD] at e
    split at e
    · cases e; obtain rfl := ra.int; obtain rfl := rb.int; exact ⟨_, _, rfl, rfl, q⟩
    · cases e
  · simp only [cmpD] at e
    split at e
    · obtain rfl := rb.non
      cases e
      refine ⟨rfl, ?_⟩
      cases qa <;> exact q
    · cases e
  · simp only [cmpD] at e
    split at e
    · obtain rfl := rb.non
      cases e
      refine ⟨rfl, ?_⟩
      cases qa <;> exact q
    · cases e
  · exact inC (neg := false) e q
  · obtain ⟨k', e1, rfl⟩ := Option.map_eq_some_iff.mp (show (cin da db).map (!·) = some k from e)
    exact inC (neg := true) e1 q
theorem cmp_bl {o : Cm} {a b : Expr} {ka kb : E} {l : Lv} {pos : Pos} (hK : X.K = Z.K) (hu : X.A.units + 65 < cLine) (hm : behindInMarks (mapCm o) b = false) (ha : Opd X Z c W l a ka) (hb : Opd X Z c W l b kb) :
    PE X (.Compare a [mapCm o] [b] pos) (TEe Z c W (tP Z) (ev (.cmp o ka kb) l)) :=
  (pe_cmpR (opR_cmp hu o) ha.kept hb.lent hm).weak fun σ H Q ⟨O, σd, h0, hg⟩ => by
    refine ⟨O, σd, h0, (Go.bind (r := BF.lent ka (ev ka l σd) σd) hg).imp fun da σ1 H1 _ r1 k1 g va tka => ⟨O, σ1, r1, (Go.bind (r := BF.lent kb (ev kb l σ1) σ1) g).imp fun db σ2 H2 _ r2 k2 g2 vb rb => ?_⟩⟩
    obtain ⟨x, ex, g3⟩ := g2.pure rr_ne
    obtain ⟨k, ek, g4⟩ := g3.opt
    exact cmp_ok hK r2 (rr_ok r2 ex (by have t := tK_keep r1 k2 tka; cases ka <;> exact t) ha.rvIn) rb ek (g4.done r2 (.bl k))
theorem cmp_tt {o : Cm} {a b : Expr} {ka kb : E} {l : Lv} {pos : Pos} (hK : X.K = Z.K) (hu : X.A.units + 65 < cLine) (hm : behindInMarks (mapCm o) b = false) (ha : Opd X Z c W l a ka) (hb : Opd X Z c W l b kb) :
    PT X (.Compare a [mapCm o] [b] pos) (TTe Z c W (fun σ => (ev (.cmp o ka kb) l σ).bind fun p => (R.ofO (tru p.1)).bind fun k => .ok (k, p.2))) :=
  (pt_cmpR (opR_cmp hu o) ha.kept hb.lent hm).weak fun σ H Q ⟨O, σd, h0, hg⟩ => by
    refine ⟨O, σd, h0, (Go.bind (r := BF.lent ka (ev ka l σd) σd) (Go.bind hg)).imp fun da σ1 H1 _ r1 k1 g va tka => ⟨O, σ1, r1, (Go.bind (r := BF.lent kb (ev kb l σ1) σ1) g).imp fun db σ2 H2 _ r2 k2 g2 vb rb => ?_⟩⟩
    obtain ⟨x, ex, g3⟩ := g2.pure rr_ne
    obtain ⟨k, ek, g4⟩ := g3.opt
    exact cmp_ok hK r2 (rr_ok r2 ex (by have t := tK_keep r1 k2 tka; cases ka <;> exact t) ha.rvIn) rb ek ⟨k, rfl, (g4.ok r2 KeepE.refl).ok r2 KeepE.refl⟩
end
end BF

/-! Snd5 -/
set_option Elab.async false
set_option linter.all false
set_option maxRecDepth 100000
set_option maxHeartbeats 2000000
namespace BF
open PySem L2

section
variable {Z : Wd} {c : Pl} {W : WX} {O : Addr → Prop} {σ : L2.St} {σd : Sd} {H H' : Hp} {X : Cx}
/-! ### truth -/
def testF (k : E) (l : Lv) : Sd → R (Bool × Sd) := fun σ => (BF.lent k (ev k l σ) σ).bind fun p => (R.ofO (tru p.1)).bind fun b => .ok (b, p.2)
theorem isEmpty_reps : ∀ {xs : List D} {vs : List V}, Reps Z H xs vs → (!xs.isEmpty) = !vs.isEmpty
  | _, _, .nil => rfl
  | _, _, .cons _ _ => rfl
theorem isEmpty_repK : ∀ {xs : List (D × D)} {vs : List (Key × V)}, RepK Z H xs vs → (!xs.isEmpty) = !vs.isEmpty
  | _, _, .nil => rfl
  | _, _, .cons _ _ _ => rfl
theorem tru_rb (hK : X.K = Z.K) {d : D} {v : V} {k : Bool} (r : RB Z H O d v) (e : tru d = some k) : TruV X.K v H k := by
  cases d with
  | non => obtain rfl := r.non; simp [tru] at e; subst e; rfl
  | bl b => obtain rfl := r.bl; simp [tru] at e; subst e; rfl
  | int i => obtain rfl := r.int; simp only [tru, Option.some.injEq] at e; subst e; rfl
  | str x =>
    obtain rfl := r.str
    simp only [tru] at e
    split at e
    · rename_i h
      cases e
      exact ⟨h, rfl⟩
    · cases e
  | tup xs =>
    obtain ⟨a, vs, rfl, ha, rs⟩ := r.tup
    simp only [tru, Option.some.injEq] at e
    subst e
    exact .inr (.inl ⟨vs, by rw [hK]; exact ha, isEmpty_reps rs⟩)
  | lst xs =>
    obtain ⟨a, vs, rfl, ha, rs⟩ := r.lst
    simp only [tru, Option.some.injEq] at e
    subst e
    exact .inl ⟨vs, SqL.of ha, isEmpty_reps rs⟩
  | dic xs =>
    obtain ⟨a, vs, rfl, ha, rs⟩ := r.dic
    simp only [tru, Option.some.injEq] at e
    subst e
    exact .inr (.inr ⟨vs, ha, isEmpty_repK rs⟩)
  | _ => simp [tru] at e
theorem tt_gen (hK : X.K = Z.K) {a : Expr} {k : E} {l : Lv} (ha : Opd X Z c W l a k) (he : ∀ whole, isTrue a X.env whole = (do let v ← whole; standAt a.pos; holding [v] (truthy v))) : PT X a (TTe Z c W (testF k l)) :=
  (pt_truth ha.lent he).weak fun σ H Q ⟨O, σd, h0, hg⟩ => ⟨O, σd, h0, (Go.bind (r := BF.lent k (ev k l σd) σd) hg).imp fun d σ1 H1 _ r1 k1 g v rv => by
    obtain ⟨b, eb, g2⟩ := g.opt
    exact ⟨b, tru_rb hK rv eb, g2.ok r1 KeepE.refl⟩⟩
theorem testF_not {k : E} {l : Lv} {σ : Sd} : testF (.not k) l σ = (testF k l σ).bind fun p => .ok (!p.1, p.2) := by
  unfold testF
  show (ev (.not k) l σ).bind _ = _
  show ((BF.lent k (ev k l σ) σ).bind fun p => (R.ofO (tru p.1)).bind fun b => R.ok (D.bl (!b), p.2)).bind _ = _
  cases BF.lent k (ev k l σ) σ with
  | ok q =>
    show ((R.ofO (tru q.1)).bind fun b => R.ok (D.bl (!b), q.2)).bind _ = ((R.ofO (tru q.1)).bind fun b => R.ok (b, q.2)).bind _
    cases R.ofO (tru q.1) <;> rfl
  | exc _ => rfl
  | bad => rfl
theorem tt_not {a : Expr} {k : E} {l : Lv} {pos : Pos} (h : PT X a (TTe Z c W (testF k l))) : PT X (.UnaryOp .Not a pos) (TTe Z c W (testF (.not k) l)) :=
  (pt_not h).weak fun σ H Q ⟨O, σd, h0, hg⟩ => by
    rw [testF_not] at hg
    exact ⟨O, σd, h0, (Go.bind hg).imp fun b σ1 H1 _ r1 k1 g => g.ok r1 KeepE.refl⟩
theorem pe_of_not {a : Expr} {k : E} {l : Lv} {pos : Pos} (hK : X.K = Z.K) (ha : Opd X Z c W l a k) : PE X (.UnaryOp .Not a pos) (TEe Z c W (tP Z) (ev (.not k) l)) :=
  (pe_notT ha.lent).weak fun σ H Q ⟨O, σd, h0, hg⟩ => ⟨O, σd, h0, (Go.bind (r := BF.lent k (ev k l σd) σd) hg).imp fun d σ1 H1 _ r1 k1 g v rv => by
    obtain ⟨b, eb, g2⟩ := g.opt
    exact ⟨b, tru_rb hK rv eb, g2.done r1 (.bl _)⟩⟩
theorem pe_of_neg {a : Expr} {k : E} {l : Lv} {pos : Pos} (h : PE X a (TEe Z c W (tP Z) (ev k l))) : PE X (.UnaryOp .USub a pos) (TEe Z c W (tP Z) (ev (.neg k) l)) :=
  (pe_un un_neg h).weak fun σ H Q ⟨O, σd, h0, hg⟩ => ⟨O, σd, h0, (Go.bind (r := ev k l σd) hg).imp fun d σ1 H1 _ r1 k1 g v rv => by
    cases d with
    | int i => cases rv; exact ⟨i, rfl, g.done r1 (.int _)⟩
    | _ => exact g.elim⟩
/-! ### and, or, if else -/
theorem pe_of_and {a b : Expr} {ka kb : E} {l : Lv} {pos : Pos} {rest : List Expr} (hK : X.K = Z.K) (ha : PE X a (TEe Z c W (tP Z) (ev ka l))) (hb : PE X (.BoolOp .And (b :: rest) pos) (TEe Z c W (tP Z) (ev kb l))) :
    PE X (.BoolOp .And (a :: b :: rest) pos) (TEe Z c W (tP Z) (ev (.and ka kb) l)) :=
  (pe_andT ha hb).weak fun σ H Q ⟨O, σd, h0, hg⟩ => ⟨O, σd, h0, (Go.bind (r := ev ka l σd) hg).imp fun d σ1 H1 _ r1 k1 g v rv => by
    obtain ⟨k, ek, g2⟩ := g.opt
    refine ⟨k, tru_rb (O := O) hK (.inl rv) ek, ?_⟩
    cases k with
    | true => exact ⟨O, σ1, r1, g2⟩
    | false => exact Go.done (show Go Z c W (.ok (d, σ1)) O σ H1 _ from g2) r1 rv⟩
theorem pe_of_or {a b : Expr} {ka kb : E} {l : Lv} {pos : Pos} {rest : List Expr} (hK : X.K = Z.K) (ha : PE X a (TEe Z c W (tP Z) (ev ka l))) (hb : PE X (.BoolOp .Or (b :: rest) pos) (TEe Z c W (tP Z) (ev kb l))) :
    PE X (.BoolOp .Or (a :: b :: rest) pos) (TEe Z c W (tP Z) (ev (.or ka kb) l)) :=
  (pe_orT ha hb).weak fun σ H Q ⟨O, σd, h0, hg⟩ => ⟨O, σd, h0, (Go.bind (r := ev ka l σd) hg).imp fun d σ1 H1 _ r1 k1 g v rv => by
    obtain ⟨k, ek, g2⟩ := g.opt
    refine ⟨k, tru_rb (O := O) hK (.inl rv) ek, ?_⟩
    cases k with
    | true => exact Go.done (show Go Z c W (.ok (d, σ1)) O σ H1 _ from g2) r1 rv
    | false => exact ⟨O, σ1, r1, g2⟩⟩
theorem testF_and {a b : E} {l : Lv} {σ : Sd} (h : isRv a = false) (h' : isRv b = false) : testF (.and a b) l σ = (testF a l σ).bind fun p => if p.1 = true then testF b l p.2 else .ok (false, p.2) := by
  have e1 : ∀ τ, BF.lent a (ev a l τ) τ = ev a l τ := fun τ => by cases a <;> first | rfl | (simp [isRv] at h)
  have e2 : ∀ τ, BF.lent b (ev b l τ) τ = ev b l τ := fun τ => by cases b <;> first | rfl | (simp [isRv] at h')
  have e3 : BF.lent (.and a b) (ev (.and a b) l σ) σ = (ev a l σ).bind fun p => (R.ofO (tru p.1)).bind fun k => if k = true then ev b l p.2 else .ok p := rfl
  unfold testF
  rw [e3, e1]
  cases ev a l σ with
  | ok q =>
    show ((R.ofO (tru q.1)).bind fun k => if k = true then ev b l q.2 else R.ok q).bind _ = ((R.ofO (tru q.1)).bind fun b => R.ok (b, q.2)).bind _
    cases ht : tru q.1 with
    | none => rfl
    | some k =>
      cases k with
      | true => show (ev b l q.2).bind _ = (BF.lent b (ev b l q.2) q.2).bind _; rw [e2]
      | false => show ((R.ofO (tru q.1)).bind fun b => R.ok (b, q.2)) = _; rw [ht]; rfl
  | exc _ => rfl
  | bad => rfl
theorem testF_or {a b : E} {l : Lv} {σ : Sd} (h : isRv a = false) (h' : isRv b = false) : testF (.or a b) l σ = (testF a l σ).bind fun p => if p.1 = true then .ok (true, p.2) else testF b l p.2 := by
  have e1 : ∀ τ, BF.lent a (ev a l τ) τ = ev a l τ := fun τ => by cases a <;> first | rfl | (simp [isRv] at h)
  have e2 : ∀ τ, BF.lent b (ev b l τ) τ = ev b l τ := fun τ => by cases b <;> first | rfl | (simp [isRv] at h')
  have e3 : BF.lent (.or a b) (ev (.or a b) l σ) σ = (ev a l σ).bind fun p => (R.ofO (tru p.1)).bind fun k => if k = true then .ok p else ev b l p.2 := rfl
  unfold testF
  rw [e3, e1]
  cases ev a l σ with
  | ok q =>
    show ((R.ofO (tru q.1)).bind fun k => if k = true then R.ok q else ev b l q.2).bind _ = ((R.ofO (tru q.1)).bind fun b => R.ok (b, q.2)).bind _
    cases ht : tru q.1 with
    | none => rfl
    | some k =>
      cases k with
      | true => show ((R.ofO (tru q.1)).bind fun b => R.ok (b, q.2)) = _; rw [ht]; rfl
      | false => show (ev b l q.2).bind _ = (BF.lent b (ev b l q.2) q.2).bind _; rw [e2]
  | exc _ => rfl
  | bad => rfl
/-- a restricted name in an and, or an or, is bad -/
theorem Go.and_rv {a b : E} {l : Lv} {K : Bool → Sd → Hp → Prop} (h : Go Z c W (testF (.and a b) l σd) O σ H K) : isRv a = false := by
  cases a <;> first | rfl | exact h.elim
theorem Go.or_rv {a b : E} {l : Lv} {K : Bool → Sd → Hp → Prop} (h : Go Z c W (testF (.or a b) l σd) O σ H K) : isRv a = false := by
  cases a <;> first | rfl | exact h.elim
end
end BF

/-! Snd6 -/
set_option Elab.async false
set_option linter.all false
set_option maxRecDepth 100000
set_option maxHeartbeats 2000000
namespace BF
open PySem L2

section
variable {Z : Wd} {c : Pl} {W : WX} {O : Addr → Prop} {σ : L2.St} {σd : Sd} {H H' : Hp} {X : Cx}
theorem Go.and {a b : E} {l : Lv} {K : Bool → Sd → Hp → Prop} (h : Go Z c W (testF (.and a b) l σd) O σ H K) : Go Z c W ((testF a l σd).bind fun p => if p.1 = true then testF b l p.2 else .ok (false, p.2)) O σ H K := by
  have ha := h.and_rv
  cases hb : isRv b with
  | false => rw [testF_and ha hb] at h; exact h
  | true =>
    have e1 : ∀ τ, BF.lent a (ev a l τ) τ = ev a l τ := fun τ => by cases a <;> first | rfl | (simp [isRv] at ha)
    have e3 : BF.lent (.and a b) (ev (.and a b) l σd) σd = (ev a l σd).bind fun p => (R.ofO (tru p.1)).bind fun k => if k = true then ev b l p.2 else .ok p := rfl
    have e4 : ∀ τ, ev b l τ = .bad := fun τ => by cases b <;> first | rfl | (simp [isRv] at hb)
    unfold testF at h ⊢
    rw [e3] at h
    rw [e1]
    revert h
    cases ev a l σd with
    | ok q =>
      intro h
      have h : Go Z c W (((R.ofO (tru q.1)).bind fun k => if k = true then ev b l q.2 else R.ok q).bind fun p => (R.ofO (tru p.1)).bind fun b => R.ok (b, p.2)) O σ H K := h
      show Go Z c W (((R.ofO (tru q.1)).bind fun b => R.ok (b, q.2)).bind _) O σ H K
      revert h
      cases ht : tru q.1 with
      | none => intro h; exact h
      | some k =>
        cases k with
        | true =>
          intro h
          have h : Go Z c W ((ev b l q.2).bind fun p => (R.ofO (tru p.1)).bind fun b => R.ok (b, p.2)) O σ H K := h
          rw [e4] at h
          exact h.elim
        | false =>
          intro h
          have h : Go Z c W ((R.ofO (tru q.1)).bind fun b => R.ok (b, q.2)) O σ H K := h
          rw [ht] at h
          exact h
    | exc _ => intro h; exact h
    | bad => intro h; exact h
theorem Go.or {a b : E} {l : Lv} {K : Bool → Sd → Hp → Prop} (h : Go Z c W (testF (.or a b) l σd) O σ H K) : Go Z c W ((testF a l σd).bind fun p => if p.1 = true then .ok (true, p.2) else testF b l p.2) O σ H K := by
  have ha := h.or_rv
  cases hb : isRv b with
  | false => rw [testF_or ha hb] at h; exact h
  | true =>
    have e1 : ∀ τ, BF.lent a (ev a l τ) τ = ev a l τ := fun τ => by cases a <;> first | rfl | (simp [isRv] at ha)
    have e3 : BF.lent (.or a b) (ev (.or a b) l σd) σd = (ev a l σd).bind fun p => (R.ofO (tru p.1)).bind fun k => if k = true then .ok p else ev b l p.2 := rfl
    have e4 : ∀ τ, ev b l τ = .bad := fun τ => by cases b <;> first | rfl | (simp [isRv] at hb)
    unfold testF at h ⊢
    rw [e3] at h
    rw [e1]
    revert h
    cases ev a l σd with
    | ok q =>
      intro h
      have h : Go Z c W (((R.ofO (tru q.1)).bind fun k => if k = true then R.ok q else ev b l q.2).bind fun p => (R.ofO (tru p.1)).bind fun b => R.ok (b, p.2)) O σ H K := h
      show Go Z c W (((R.ofO (tru q.1)).bind fun b => R.ok (b, q.2)).bind _) O σ H K
      revert h
      cases ht : tru q.1 with
      | none => intro h; exact h
      | some k =>
        cases k with
        | false =>
          intro h
          have h : Go Z c W ((ev b l q.2).bind fun p => (R.ofO (tru p.1)).bind fun b => R.ok (b, p.2)) O σ H K := h
          rw [e4] at h
          exact h.elim
        | true =>
          intro h
          have h : Go Z c W ((R.ofO (tru q.1)).bind fun b => R.ok (b, q.2)) O σ H K := h
          rw [ht] at h
          exact h
    | exc _ => intro h; exact h
    | bad => intro h; exact h
theorem pw_of_and {a b : Expr} {ka kb : E} {l : Lv} {pos : Pos} {rest : List Expr} (ha : PT X a (TTe Z c W (testF ka l))) (hb : PW X (.BoolOp .And (b :: rest) pos) (TTe Z c W (testF kb l))) :
    PW X (.BoolOp .And (a :: b :: rest) pos) (TTe Z c W (testF (.and ka kb) l)) :=
  ⟨fun whole pins s σ H Q I ⟨O, σd, h0, hg⟩ => (pw_and ha hb).run whole pins s σ H Q I ⟨O, σd, h0, (Go.bind (r := testF ka l σd) hg.and).imp fun k σ1 H1 _ r1 k1 g => by
    cases k with
    | true => exact ⟨O, σ1, r1, g⟩
    | false => exact Go.ok (show Go Z c W (.ok (false, σ1)) O σ H1 _ from g) r1 KeepE.refl⟩⟩
theorem pw_of_or {a b : Expr} {ka kb : E} {l : Lv} {pos : Pos} {rest : List Expr} (ha : PT X a (TTe Z c W (testF ka l))) (hb : PW X (.BoolOp .Or (b :: rest) pos) (TTe Z c W (testF kb l))) :
    PW X (.BoolOp .Or (a :: b :: rest) pos) (TTe Z c W (testF (.or ka kb) l)) :=
  ⟨fun whole pins s σ H Q I ⟨O, σd, h0, hg⟩ => (pw_or ha hb).run whole pins s σ H Q I ⟨O, σd, h0, (Go.bind (r := testF ka l σd) hg.or).imp fun k σ1 H1 _ r1 k1 g => by
    cases k with
    | false => exact ⟨O, σ1, r1, g⟩
    | true => exact Go.ok (show Go Z c W (.ok (true, σ1)) O σ H1 _ from g) r1 KeepE.refl⟩⟩
theorem pe_of_ite {t a b : Expr} {kt ka kb : E} {l : Lv} {pos : Pos} (ht : PT X t (TTe Z c W (testF kt l))) (ha : PE X a (TEe Z c W (tP Z) (ev ka l))) (hb : PE X b (TEe Z c W (tP Z) (ev kb l))) :
    PE X (.IfExp t a b pos) (TEe Z c W (tP Z) (ev (.ite kt ka kb) l)) :=
  (pe_ifExp ht ha hb).weak fun σ H Q ⟨O, σd, h0, hg⟩ => by
    have e : ev (.ite kt ka kb) l σd = (testF kt l σd).bind fun p => if p.1 = true then ev ka l p.2 else ev kb l p.2 := by
      show (BF.lent kt (ev kt l σd) σd).bind _ = _
      unfold testF
      cases BF.lent kt (ev kt l σd) σd with
      | ok q => show ((R.ofO (tru q.1)).bind fun k => if k = true then ev ka l q.2 else ev kb l q.2) = ((R.ofO (tru q.1)).bind fun b => R.ok (b, q.2)).bind _; cases tru q.1 <;> rfl
      | exc _ => rfl
      | bad => rfl
    rw [e] at hg
    refine ⟨O, σd, h0, (Go.bind hg).imp fun k σ1 H1 _ r1 k1 g => ?_⟩
    cases k with
    | true => exact ⟨O, σ1, r1, g⟩
    | false => exact ⟨O, σ1, r1, g⟩
theorem testF_ite {t a b : E} {l : Lv} {σ : Sd} : testF (.ite t a b) l σ = (testF t l σ).bind fun p => if p.1 = true then (ev a l p.2).bind fun q => (R.ofO (tru q.1)).bind fun k => .ok (k, q.2) else (ev b l p.2).bind fun q => (R.ofO (tru q.1)).bind fun k => .ok (k, q.2) := by
  unfold testF
  show ((BF.lent t (ev t l σ) σ).bind fun p => (R.ofO (tru p.1)).bind fun k => if k = true then ev a l p.2 else ev b l p.2).bind _ = _
  cases BF.lent t (ev t l σ) σ with
  | ok q =>
    show ((R.ofO (tru q.1)).bind fun k => if k = true then ev a l q.2 else ev b l q.2).bind _ = ((R.ofO (tru q.1)).bind fun b => R.ok (b, q.2)).bind _
    cases tru q.1 with
    | none => rfl
    | some k => cases k <;> rfl
  | exc _ => rfl
  | bad => rfl
theorem Go.lentOf {k : E} {l : Lv} {K : Bool → Sd → Hp → Prop} (h : Go Z c W ((ev k l σd).bind fun q => (R.ofO (tru q.1)).bind fun k => .ok (k, q.2)) O σ H K) : Go Z c W (testF k l σd) O σ H K := by
  cases hk : isRv k with
  | false =>
    have e : BF.lent k (ev k l σd) σd = ev k l σd := by cases k <;> first | rfl | (simp [isRv] at hk)
    unfold testF
    rw [e]
    exact h
  | true => cases k <;> first | exact h.elim | (simp [isRv] at hk)
theorem tt_ite {t a b : Expr} {kt ka kb : E} {l : Lv} {pos : Pos} (ht : PT X t (TTe Z c W (testF kt l))) (ha : PT X a (TTe Z c W (testF ka l))) (hb : PT X b (TTe Z c W (testF kb l))) :
    PT X (.IfExp t a b pos) (TTe Z c W (testF (.ite kt ka kb) l)) :=
  ⟨fun pins s σ H Q I ⟨O, σd, h0, hg⟩ => PyProof.Rows.isTrue_IfExp (by
    rw [testF_ite] at hg
    refine thn (ht.run pins s σ H (fun k H1 => if k = true then TTe Z c W (testF ka l) σ H1 Q else TTe Z c W (testF kb l) σ H1 Q) I ⟨O, σd, h0, (Go.bind hg).imp fun k σ1 H1 _ r1 k1 g => ?_⟩) fun k s1 ⟨H1, I1, q1⟩ => ?_
    · cases k with
      | true => exact ⟨O, σ1, r1, Go.lentOf g⟩
      | false => exact ⟨O, σ1, r1, Go.lentOf g⟩
    · cases k with
      | true => exact ha.run pins s1 σ H1 Q I1 q1
      | false => exact hb.run pins s1 σ H1 Q I1 q1)⟩
/-! ### items -/
theorem sub_any {prog : Program} {w : World} {A : Around} {E : Value → Shared → Prop} {s : Shared} {value slice : Expr} {o i : Value} {T id : String} {Q : Value → Shared → Prop} (hT : s.TypeIs o T)
    (hl : typeLookup (.type T) "__getitem__" = pure (some (.builtin id))) (hs : subscripted slice false o i = operate [o, i] (getItem o i)) (h : wpAny (model prog w) A (getItem o i) Q E s) : wpAny (model prog w) A (PyProof.Rows.subscriptTail value slice o i) Q E s := by
  unfold PyProof.Rows.subscriptTail
  refine wpAny_bind ?_
  rw [PySem.getitemInPython_of_ne hT.not_modules]
  refine wpAny_bind (wpAny_specialOf hT hl ?_)
  have last : wpAny (model prog w) A (subscripted slice false o i) (fun r t => wpAny (model prog w) A (letTemporaryGo value o r >>= fun _ => pure r) Q E t) E s := by
    rw [hs]
    exact wpAny_operating (wpAny_mono h (fun r t q => wpAny_bind (wpAny_letTemporaryGo (wpAny_pure q))) fun _ _ q => q)
  first
    | exact wpAny_pure (wpAny_bind last)
    | exact wpAny_bind (wpAny_pure (wpAny_bind last))
    | exact wpAny_bind last
def rIxD : R2 := fun x y H Q => ∃ a v, x = .ref a ∧ DGet H a y (some v) ∧ Q v H
theorem ix_dict (hu : X.A.units + 1 < cLine) : IxR X rIxD := by
  intro value slice pins s σ H x y v u Q I rx ry h hs
  obtain ⟨a, z, rfl, g, q⟩ := h
  obtain rfl : v = Value.ref a := rx
  exact sub_any (dict_typeIs I g) PySem.F.slot_dict_getitem.lookup hs (d_getItem hu I g ry fun w' s' I' rw' => ⟨z, H, I', rw', q⟩)
def rSub (K : PySem.W.Frag) : R2 := fun x y H Q => (rIxL K x y H Q ∨ rIxT K x y H Q) ∨ rIxD x y H Q
theorem ix_all (hu : X.A.units + 1 < cLine) : IxR X (rSub X.K) := (ix_list.or ix_tup).or (ix_dict hu)
theorem ixn_eq (n : Nat) (i : Int) : ixn n i = ixN n i := rfl
theorem atI_rep {xs : List D} {vs : List V} {i : Int} {d : D} (r : Reps Z H xs vs) (e : ((ixn xs.length i).bind fun j => xs[j]?) = some d) : ∃ v, atI vs i = some v ∧ Rep Z H d v := by
  unfold atI
  rw [← r.length]
  obtain ⟨j, e1, e2⟩ := Option.bind_eq_some_iff.mp e
  obtain ⟨v, h1, h2⟩ := r.get e2
  exact ⟨v, Option.bind_eq_some_iff.mpr ⟨j, e1, h1⟩, h2⟩
theorem subD_ok (hK : X.K = Z.K) {da db d : D} {va vb : V} {Q : VK} (r : RelS Z c O σd σ H) (ra : RB Z H O da va) (rb : Rep Z (hide H O) db vb) (e : subD da db = some d) (q : ∀ v, Rep Z (hide H O) d v → Q v H) : rSub X.K va vb H Q := by
  unfold subD at e
  cases da with
  | tup xs =>
    obtain ⟨a, vs, rfl, ha, rs⟩ := ra.tup
    cases db with
    | int i =>
      cases rb
      obtain ⟨v, h1, h2⟩ := atI_rep rs e
      exact .inl (.inr ⟨a, vs, i, v, rfl, rfl, by rw [hK]; exact ha, h1, q v h2⟩)
    | _ => simp at e
  | lst xs =>
    obtain ⟨a, vs, rfl, ha, rs⟩ := ra.lst
    cases db with
    | int i =>
      cases rb
      obtain ⟨v, h1, h2⟩ := atI_rep rs e
      exact .inl (.inl ⟨a, vs, i, v, rfl, rfl, SqL.of ha, h1, q v h2⟩)
    | _ => simp at e
  | dic kvs =>
    obtain ⟨a, ks, rfl, ha, rs⟩ := ra.dic
    simp only at e
    split at e
    · rename_i hk
      obtain ⟨p, hp, rfl⟩ := key_of_rep hk rb
      have z := dget_val rs hp
      rw [e] at z
      obtain ⟨v, h1, h2⟩ := z
      exact .inr ⟨a, v, rfl, by rw [← h1]; exact DGet.k ha, q v h2⟩
    · cases e
  | _ => simp at e
theorem plainIx_of {b : Expr} (h : notSl b = true) : PlainIx b := by
  intro o i
  cases b <;> first | rfl | (simp [notSl] at h)
theorem pe_of_sub (hK : X.K = Z.K) (hu : X.A.units + 65 < cLine) {a b : Expr} {ka kb : E} {l : Lv} {pos : Pos} (hs : notSl b = true) (ha : Opd X Z c W l a ka) (hb : PE X b (TEe Z c W (tP Z) (ev kb l))) :
    PE X (.Subscript a b pos) (TEe Z c W (tP Z) (ev (.sub ka kb) l)) :=
  (pe_ix (ix_all (by omega)) ha.kept hb (plainIx_of hs)).weak fun σ H Q ⟨O, σd, h0, hg⟩ => by
    refine ⟨O, σd, h0, (Go.bind (r := BF.lent ka (ev ka l σd) σd) hg).imp fun da σ1 H1 _ r1 k1 g va tka => ⟨O, σ1, r1, (Go.bind (r := ev kb l σ1) g).imp fun db σ2 H2 _ r2 k2 g2 vb rb => ?_⟩⟩
    obtain ⟨x, ex, g3⟩ := g2.pure rr_ne
    obtain ⟨d, ed, g4⟩ := g3.opt
    exact subD_ok hK r2 (rr_ok r2 ex (by have t := tK_keep r1 k2 tka; cases ka <;> exact t) ha.rvIn) rb ed fun v rv => g4.done r2 rv
/-! ### slices -/
def TOe (Z : Wd) (c : Pl) (W : WX) (f : Sd → R (Option Int × Sd)) : TO := fun σ H Q => ∃ O σd, RelS Z c O σd σ H ∧ Go Z c W (f σd) O σ H fun o _ H' => Q o H'
theorem po_of_none {l : Lv} : PO X none (TOe Z c W (evo .none l)) := ⟨fun pins s σ H Q I ⟨O, σd, h0, hg⟩ => po_none.run pins s σ H Q I (hg.ok h0 KeepE.refl)⟩
theorem po_of_some {e : Expr} {k : E} {l : Lv} (h : PE X e (TEe Z c W (tP Z) (ev k l))) : PO X (some e) (TOe Z c W (evo (.some k) l)) :=
  ⟨fun pins s σ H Q I ⟨O, σd, h0, hg⟩ => (po_some h).run pins s σ H Q I ⟨O, σd, h0, (Go.bind (r := ev k l σd) hg).imp fun d σ1 H1 _ r1 k1 g v rv => by
    cases d with
    | int i => cases rv; exact ⟨i, rfl, g.ok r1 KeepE.refl⟩
    | _ => exact g.elim⟩⟩
theorem six_eq (n d : Nat) (o : Option Int) : six n d o = HT.sIx n d o := by cases o <;> rfl
theorem cut_reps {xs : List D} {vs : List V} (r : Reps Z H xs vs) (lo hi : Option Int) : Reps Z H (cut xs lo hi) (cutV vs lo hi) := by
  unfold cut cutV
  rw [six_eq, six_eq, r.length]
  exact (r.drop _).take _
def rSlc (K : PySem.W.Frag) : V → Option Int → Option Int → Hp → VK → Prop := fun x lo hi H Q => rSlL K x lo hi H Q ∨ rSlA K x lo hi H Q
theorem cut_whole {vs : List V} {lo hi : Option Int} (h : HT.sIx vs.length 0 lo = 0 ∧ HT.sIx vs.length vs.length hi = vs.length) : cutV vs lo hi = vs := by
  unfold cutV
  rw [h.1, h.2]
  simp
theorem pe_of_sl (hK : X.K = Z.K) {a : Expr} {lo hi : Option Expr} {ka : E} {klo khi : Eo} {l : Lv} {p2 pos : Pos} (ha : Opd X Z c W l a ka) (h1 : PO X lo (TOe Z c W (evo klo l))) (h2 : PO X hi (TOe Z c W (evo khi l))) :
    PE X (.Subscript a (.Slice lo hi none p2) pos) (TFe Z c W (ev (.sl ka klo khi) l)) :=
  (pe_slice (r := rSlc X.K) (sl_list.or sl_tupA) ha.kept h1 h2).weak fun σ H Q ⟨O, σd, h0, hg⟩ => by
    refine ⟨O, σd, h0, (Go.bind (r := BF.lent ka (ev ka l σd) σd) hg).imp fun da σ1 H1 _ r1 k1 g va tka => ⟨O, σ1, r1, (Go.bind (r := evo klo l σ1) g).imp fun o1 σ2 H2 _ r2 k2 g2 => ⟨O, σ2, r2, (Go.bind (r := evo khi l σ2) g2).imp fun o2 σ3 H3 _ r3 k3 g3 => ?_⟩⟩⟩
    obtain ⟨x, ex, g4⟩ := g3.pure rr_ne
    have rx : RB Z H3 O x va := rr_ok r3 ex (by have t := tK_keep r2 k3 (tK_keep r1 k2 tka); cases ka <;> exact t) ha.rvIn
    cases x with
    | tup xs =>
      obtain ⟨a, vs, rfl, hv, rs⟩ := rx.tup
      refine .inr ⟨a, vs, rfl, by rw [hK]; exact hv, fun hw => ?_, fun _ => ?_⟩
      · have z : cut xs o1 o2 = xs := by
          unfold cut
          rw [six_eq, six_eq, rs.length, hw.1, hw.2]
          simp [← rs.length]
        have g5 : RetF Z c W O σ H σ3 H3 (.tup xs) Q := by
          have g6 : RetF Z c W O σ H σ3 H3 (.tup (cut xs o1 o2)) Q := g4
          rw [z] at g6
          exact g6
        refine RetF.done g5 r3 rfl ?_
        rcases rx with q | ⟨_, _, _, q⟩
        · exact q
        · exact q.elim
      · exact RetF.newT g4 r3 (cut_reps rs o1 o2)
    | lst xs =>
      obtain ⟨a, vs, rfl, hv, rs⟩ := rx.lst
      exact .inl ⟨a, vs, rfl, SqL.of hv, RetF.newL g4 r3 (fun p hp => h0.back r3 ((k1.trans k2).trans k3) hp) (cut_reps rs o1 o2)⟩
    | _ => exact g4.elim
end
end BF

/-! RevX -/
set_option Elab.async false
set_option linter.all false
set_option maxRecDepth 100000
set_option maxHeartbeats 2000000
/-! x[::-1] of a tuple, of a list -/
namespace BF
open PySem PySem.Spec PyProof.Rows L2 HT

theorem fm_congr {α β : Type} {f g : α → Option β} : ∀ {l : List α}, (∀ m ∈ l, f m = g m) → l.filterMap f = l.filterMap g
  | [], _ => rfl
  | x :: l, h => by
    rw [List.filterMap_cons, List.filterMap_cons, h x List.mem_cons_self, fm_congr fun m hm => h m (List.mem_cons_of_mem _ hm)]
section
variable {prog : Program} {w : World} {A : Around} {E : Value → Shared → Prop} {s : Shared}
theorem adjust_rev (n : Nat) : Builtin.Slice.sliceAdjust none none (-1) (n : Int) = ((n : Int) - 1, -1) := rfl
theorem places_rev (n : Nat) : Builtin.Slice.slicePlaces ((n : Int) - 1) (-1) (-1) = n := by
  unfold Builtin.Slice.slicePlaces
  rw [if_neg (by decide)]
  by_cases h : (n : Int) - 1 > -1
  · rw [if_pos h, show (-(-1) : Int) = 1 by decide, Int.ediv_one]
    omega
  · rw [if_neg h]
    omega
theorem sliceApplied_rev {sl : Addr} {vk : Value} {n : Nat} {Q : Int × Int × Nat → Shared → Prop} (hs : s.heap.IsSliceOf sl .none .none vk) (pk : IsPart vk (some (-1)))
    (h : Q ((n : Int) - 1, -1, n) s) : wpAny (model prog w) A (Builtin.Slice.sliceApplied (.ref sl) (pure (n : Int))) Q E s := by
  obtain ⟨os, hos, hcs, hds⟩ := id hs
  unfold Builtin.Slice.sliceApplied Builtin.Slice.sliceFields
  refine wpAny_bind (wpAny_bind (wpAny_field hos hds (x := .none) rfl (wpAny_bind (wpAny_field hos hds (x := .none) rfl (wpAny_bind (wpAny_field hos hds (x := vk) rfl (wpAny_pure ?_)))))))
  refine wpAny_bind (slicePart_ pk ?_)
  show wpAny _ _ (if ((-1 : Int) == 0) = true then _ else _) _ _ s
  rw [if_neg (by decide)]
  refine wpAny_bind (slicePart_none (wpAny_bind (slicePart_none (wpAny_bind (wpAny_pure ?_)))))
  show wpAny _ _ (match Builtin.Slice.sliceAdjust none none (-1) (n : Int) with | (lo, hi) => pure (lo, (-1 : Int), Builtin.Slice.slicePlaces lo hi (-1))) _ _ s
  rw [adjust_rev n]
  show wpAny _ _ (pure ((n : Int) - 1, (-1 : Int), Builtin.Slice.slicePlaces ((n : Int) - 1) (-1) (-1))) _ _ s
  rw [places_rev]
  exact wpAny_pure h
theorem pick_rev (xs : Array Value) : ((List.range xs.size).filterMap fun (m : Nat) => xs[(((xs.size : Int) - 1) + (m : Int) * (-1)).toNat]?).toArray = xs.toList.reverse.toArray := by
  congr 1
  have e : ((List.range xs.size).filterMap fun (m : Nat) => xs[(((xs.size : Int) - 1) + (m : Int) * (-1)).toNat]?) = ((List.range xs.size).map fun k => xs.size - 1 - k).filterMap (xs[·]?) := by
    rw [List.filterMap_map]
    apply fm_congr
    intro m hm
    have := List.mem_range.mp hm
    show xs[(((xs.size : Int) - 1) + (m : Int) * (-1)).toNat]? = xs[xs.size - 1 - m]?
    congr 1
    omega
  rw [e]
  have e2 : (List.range xs.size).map (fun k => xs.size - 1 - k) = (List.range xs.size).reverse := by
    apply List.ext_getElem
    · simp
    · intro i h1 h2
      first
      | (simp; done)
      | (rw [List.getElem_map, List.getElem_reverse]; simp)
  rw [e2, List.filterMap_reverse]
  congr 1
  have h := pick_run xs 0 xs.size
  have e3 : (List.range xs.size).map (0 + ·) = List.range xs.size := by
    rw [show ((0 + ·) : Nat → Nat) = id from funext fun k => Nat.zero_add k, List.map_id]
  rw [e3, List.drop_zero, List.take_of_length_le (by rw [Array.length_toList]; exact Nat.le_refl _)] at h
  exact h
theorem getItem_tuple_rev {t sl : Addr} {items : Array Value} {vk : Value} {Q : Value → Shared → Prop} (ht : IsTup s.heap t items) (hs : s.heap.IsSliceOf sl .none .none vk) (pk : IsPart vk (some (-1)))
    (h : Q (.ref s.heap.objs.size) { s with heap := s.heap.push { cls := .type "tuple", data := .seq items.toList.reverse.toArray } })
    (hsz : items.size ≤ sizeLine) : wpAny (model prog w) A (getItem (.ref t) (.ref sl)) Q E s := by
  have htake : sizeOk (.seq items.toList.reverse.toArray) := by
    show items.toList.reverse.toArray.size ≤ sizeLine
    rw [List.size_toArray, List.length_reverse, Array.length_toList]
    omega
  obtain ⟨os, hos, hcs, hds⟩ := id hs
  have hTs : s.TypeIs (.ref sl) "slice" := ⟨os, hos, hcs⟩
  unfold getItem
  try with_reducible refine wpAny_holding ?_
  first | refine wpAny_bind (wpAny_pure ?_) | skip
  refine wpAny_bind (wpAny_sequenceKey ht.typeIs (by decide) ?_)
  refine wpAny_bind (wpAny_callSpecial?_slot (name := Str.ofString "__getitem__") ht.typeIs PyProof.Rows.slot_tuple_getitem
    (wpAny_call_entry PyProof.Rows.slot_tuple_getitem ht.typeIs entry_tuple_getitem ?_ (args_tuple_getitem _ _)))
  show wpAny _ _ (Builtin.Tuple.tupleItemsOf (.ref t) >>= _) _ _ s
  refine wpAny_bind (tupleItemsOf_ ht ?_)
  refine wpAny_bind (wpAny_typeOf hTs ?_)
  rw [if_pos (by decide)]
  refine wpAny_bind (sliceApplied_rev hs pk ?_)
  have hno : ¬ ((((items.size : Int) - 1) == 0 && (-1 : Int) == 1 && items.size == items.size) = true) := by
    intro q
    rw [Bool.and_eq_true, Bool.and_eq_true] at q
    exact absurd q.1.2 (by decide)
  show wpAny _ _ (if (((items.size : Int) - 1) == 0 && (-1 : Int) == 1 && items.size == items.size) = true then _ else _) _ _ s
  rw [if_neg hno, pick_rev]
  first
    | exact wpAny_bind (m := Builtin.Tuple.tupleExact _) (wpAny_newObj_type (wpAny_pure ⟨_, rfl, wpAny_pure h⟩) htake)
    | exact wpAny_bind (m := Builtin.Tuple.tupleExact _) (wpAny_newObj_type (wpAny_bind (wpAny_pure (wpAny_pure ⟨_, rfl, wpAny_pure h⟩))) htake)
    | exact wpAny_bind (wpAny_bind (m := Builtin.Tuple.tupleExact _) (wpAny_newObj_type (wpAny_pure (wpAny_pure ⟨_, rfl, wpAny_pure h⟩)) htake))
    | exact wpAny_bind (wpAny_bind (m := Builtin.Tuple.tupleExact _) (wpAny_newObj_type (wpAny_pure ⟨_, rfl, wpAny_pure h⟩) htake))
theorem pick_revL (items : Array Value) : slicePick items none none (some (-1)) = items.toList.reverse.toArray := by
  have h : slicePick items none none (some (-1)) = ((sliceRange ((items.size : Int) - 1) (-1) (-1)).filterMap (items[·]?)).toArray := by
    unfold slicePick
    rfl
  rw [h, ← pick_rev]
  congr 1
  have e : sliceRange ((items.size : Int) - 1) (-1) (-1) = (List.range items.size).map fun k => items.size - 1 - k := by
    unfold sliceRange
    have h1 : ¬ ((-1 : Int) > 0) := by decide
    by_cases h : (items.size : Int) - 1 > -1
    · have e : ((items.size : Int) - 1 - -1 - -1 - 1) / (- -1) = (items.size : Int) := by
        rw [show (- -1 : Int) = 1 by decide, Int.ediv_one]
        omega
      simp only [h1, if_false, h, if_true, e, Int.toNat_natCast]
      apply List.map_congr_left
      intro k hk
      have := List.mem_range.mp hk
      omega
    · have e : items.size = 0 := by omega
      rw [e]
      simp
  rw [e, List.filterMap_map]
  apply fm_congr
  intro m hm
  have := List.mem_range.mp hm
  show items[items.size - 1 - m]? = _
  congr 1
  omega
end
section
variable {X : Cx} {e : Expr} {te : TE} {p2 pos p3 p4 : Pos} {kk : Nat}
/-- what such a slice is, by values -/
def rRev (K : PySem.W.Frag) : V → Hp → VK → Prop := fun x H Q => (∃ a xs, x = .ref a ∧ SqT K H a xs ∧ ∀ p, H p = none → Q (.ref p) (upd H p (.tup xs.reverse))) ∨ (∃ a xs, x = .ref a ∧ SqL K H a xs ∧ ∀ p, H p = none → Q (.ref p) (upd H p (.lst xs.reverse)))
def tRev (K : PySem.W.Frag) (te : TE) : TE := fun σ H Q => te σ H fun x H1 => rRev K x H1 Q
theorem vals_reverse {xs : List V} {us : List Value} (r : Vals xs us) : Vals xs.reverse us.reverse := by
  induction r with
  | nil => exact .nil
  | cons h _ ih => rw [List.reverse_cons, List.reverse_cons]; exact ih.append (.cons h .nil)
theorem pe_rev (he : PE X e te) : PE X (.Subscript e (.Slice none none (some (.UnaryOp .USub (.Constant (.int 1) kk p4) p3)) p2) pos) (tRev X.K te) := by
  refine ⟨fun pins s σ H Q I h => ?_⟩
  refine Subscript_ (thn (he.run pins s σ H _ I h) fun v s1 ⟨x, H1, I1, r1, q1⟩ => ?_)
  refine wpAny_Slice ?_
  rw [evalPart_none]
  refine wpAny_pure (wpAny_pure ?_)
  rw [evalPart_some]
  have hm : PE X (.UnaryOp .USub (.Constant (.int 1) kk p4) p3) (fun σ H Q => Q (.int (-1)) H) := (pe_un un_neg pe_int).weak fun σ H Q q => ⟨1, rfl, q⟩
  refine thn (hm.run pins s1 σ H1 (fun v H2 => v = .int (-1) ∧ H2 = H1) I1 ⟨rfl, rfl⟩) fun vk s3 ⟨y, H3, I3, pk0, e1, e2⟩ => ?_
  subst e1 e2
  obtain ⟨tk, rfl⟩ := pk0
  have pk : IsPart (Value.int (-1) tk) (some (-1)) := .int (-1) tk
  have I4 : Inv X pins σ H3 { s3 with heap := s3.heap.push { cls := .type "slice", data := .fields #[.none, .none, .int (-1) tk] } } := I3.kept (t' := s3.toks) fun b ob q => Heap.get?_push_of_some _ q
  have hs : ({ s3 with heap := s3.heap.push { cls := .type "slice", data := .fields #[.none, .none, .int (-1) tk] } } : Shared).heap.IsSliceOf s3.heap.objs.size .none .none (.int (-1) tk) := Heap.IsSliceOf.new ..
  show wpAny (model X.prog X.w) X.A (subscriptTail e (.Slice none none (some (.UnaryOp .USub (.Constant (.int 1) kk p4) p3)) p2) v (.ref s3.heap.objs.size)) (EP X pins σ Q) X.xe { s3 with heap := s3.heap.push { cls := .type "slice", data := .fields #[.none, .none, .int (-1) tk] } }
  rcases q1 with ⟨a, xs, rfl, hx, q⟩ | ⟨a, xs, rfl, hx, q⟩
  · cases r1
    obtain ⟨its, r, ht, hz⟩ := I4.tuple hx
    have hlen : its.toArray.size = xs.length := by rw [List.size_toArray]; exact r.length.symm
    refine tail_any (ops := [.ref a, .ref s3.heap.objs.size]) ht.typeIs PyProof.Rows.slot_tuple_getitem.lookup ?_ (by with_unfolding_all rfl)
    refine getItem_tuple_rev ht hs pk ?_ (by rw [hlen]; exact hz)
    refine ⟨.ref _, _, I4.laid (t' := s3.toks) (o := .tup xs.reverse) (fun b ob q => Heap.get?_push_of_some _ q) (Nat.le_refl _) ?_, rfl, q _ (I4.hok.fresh (Nat.le_refl _))⟩
    exact ⟨by rw [List.length_reverse]; exact hz, _, vals_reverse r, IsTup.new _ _⟩
  · cases r1
    obtain ⟨its, r, ht, hz⟩ := I4.list hx
    have hlen := r.length
    refine tail_any (ops := [.ref a, .ref s3.heap.objs.size]) ht.isList.typeIs slot_list_getitem.lookup ?_ (by with_unfolding_all rfl)
    refine wpAny_getItem_list_slice ht.isList hs .none .none pk (by simp) ?_ (by rw [List.size_toArray] <;> omega)
    rw [pick_revL]
    refine ⟨.ref _, _, I4.laid (t' := s3.toks) (o := .lst xs.reverse) (fun b ob q => Heap.get?_push_of_some _ q) (Nat.le_refl _) ?_, rfl, q _ (I4.hok.fresh (Nat.le_refl _))⟩
    exact ⟨by rw [List.length_reverse]; exact hz, _, 0, vals_reverse r, Heap.get?_push_size _ rfl⟩
end
section
variable {Z : Wd} {c : Pl} {W : WX} {X : Cx} {O : Addr → Prop} {σ : L2.St} {H : Hp}
theorem pe_of_rev (hK : X.K = Z.K) {a : Expr} {ka : E} {l : Lv} {p2 pos p3 p4 : Pos} {kk : Nat} (ha : Opd X Z c W l a ka) :
    PE X (.Subscript a (.Slice none none (some (.UnaryOp .USub (.Constant (.int 1) kk p4) p3)) p2) pos) (TFe Z c W (ev (.rev ka) l)) :=
  (pe_rev ha.lent).weak fun σ H Q ⟨O, σd, h0, hg⟩ => by
    refine ⟨O, σd, h0, (Go.bind (r := BF.lent ka (ev ka l σd) σd) hg).imp fun da σ1 H1 _ r1 k1 g va tka => ?_⟩
    have rx : RB Z H1 O da va := tka
    cases da with
    | tup xs =>
      obtain ⟨a, vs, rfl, hv, rs⟩ := rx.tup
      exact .inl ⟨a, vs, rfl, by rw [hK]; exact hv, RetF.newT g r1 rs.rev⟩
    | lst xs =>
      obtain ⟨a, vs, rfl, hv, rs⟩ := rx.lst
      exact .inr ⟨a, vs, rfl, SqL.of hv, RetF.newL g r1 (fun p hp => h0.back r1 k1 hp) rs.rev⟩
    | _ => exact g.elim
end
end BF

/-! SumT -/
set_option Elab.async false
set_option linter.all false
set_option maxRecDepth 100000
set_option maxHeartbeats 4000000
/-! sum of a tuple of numbers -/
namespace BF
open PySem PySem.Spec PyProof.Rows L2
section
variable {prog : Program} {w : World} {A : Around} {E : Value → Shared → Prop} {s : Shared}
theorem sum_tupG {l : Addr} {xs : Array (Int × Tok)} {Q : Value → Shared → Prop} (hh : A.handled = none) (ht : IsTup s.heap l (intItems xs))
    (h : ∀ h' tk t', (∀ b o, s.heap.get? b = some o → h'.get? b = some o) → Q (.int (preSum (numAt xs) xs.size) t') { s with heap := h', toks := tk }) :
    wpAny (model prog w) A (call (.builtin "sum") [.ref l]) Q E s := by
  have hlt : l < s.heap.objs.size := by obtain ⟨_, e, _⟩ := ht; exact Heap.lt_size e
  obtain ⟨ol, hol, hcl, nl, hdl⟩ := id ht
  refine call_sum_walkG (iter_tuple ht ⟨_, _, _, _, _, _, numAt xs, rfl, Walks.tuple (A := A.in1) hh _ l (Nat.ne_of_lt hlt) (intItems xs), ⟨⟨_, Heap.get?_push_size _ rfl, rfl, rfl⟩, ⟨ol, Heap.get?_push_of_some _ hol, hcl, nl, hdl⟩⟩, fun b hb => ?_, (fun _ _ => intItems_at), fun h' tk t' hk => ?_⟩)
  · show b < (s.heap.push _).objs.size
    rw [Heap.size_push]
    rcases List.mem_cons.mp hb with rfl | hb
    · exact Nat.lt_succ_self _
    · rcases List.mem_cons.mp hb with rfl | hb
      · exact Nat.lt_succ_of_lt hlt
      · cases hb
  · have := h h' tk t' (fun b o e => hk b o (fun hm => by
      have := Heap.lt_size e
      rw [List.mem_singleton.mp hm] at this
      exact absurd this (Nat.lt_irrefl _)) (Heap.get?_push_of_some _ e))
    simpa [intItems] using this
theorem sum_rawT {l : Addr} {its : List Value} {ns : List Int} {Q : Value → Shared → Prop} (hh : A.handled = none) (ht : IsTup s.heap l its.toArray) (hi : IntsAre its ns)
    (h : ∀ h' tk t', (∀ b o, s.heap.get? b = some o → h'.get? b = some o) → Q (.int ns.sum t') { s with heap := h', toks := tk }) : wpAny (model prog w) A (call (.builtin "sum") [.ref l]) Q E s := by
  obtain ⟨xs, e⟩ := hi.allInts.items
  have hn : numsOf (intItems xs).toList = ns := by rw [← e]; exact hi.numsOf
  rw [nums_intItems] at hn
  rw [e] at ht
  refine sum_tupG hh ht fun h' tk t' hk => ?_
  have := h h' tk t' hk
  rw [preSum_eq, List.take_of_length_le (by simp), hn]; exact this
end
def rSumT (K : PySem.W.Frag) : List V → Hp → VK → Prop := fun vs H Q => ∃ (a : Addr) (ns : List Int), vs = [V.ref a] ∧ SqT K H a (ns.map V.int) ∧ Q (.int ns.sum) H
section
variable {X : Cx}
theorem cr_sumT (hc : X.calm = true) : CallR X (.builtin "sum") (rSumT X.K) := by
  intro pins s σ H vs us Q I r h
  obtain ⟨a, ns, rfl, hs, q⟩ := h
  obtain ⟨its, rv, ht, _⟩ := I.tuple hs
  rw [Vals.ref1 r]
  exact sum_rawT (I.ok.hd hc) ht rv.ints fun h' tk t' hk => ⟨.int _, H, I.kept hk, ⟨_, rfl⟩, q⟩
end
end BF

/-! Snd7 -/
set_option Elab.async false
set_option linter.all false
set_option maxRecDepth 100000
set_option maxHeartbeats 2000000
namespace BF
open PySem L2

/-! ### arguments without a star -/
def notStar : Expr → Bool
  | .Starred .. => false
  | _ => true
theorem star_cons {e : Expr} {es : List Expr} {env : Env} (h : notStar e = true) : starEach (e :: es) env = (false, eval e env) :: starEach es env := by
  cases e <;> first | rfl | (simp [notStar] at h)
theorem star_any {env : Env} {pos : Pos} : ∀ {es : List Expr}, es.all notStar = true → (backTo pos (starEach es env)).any (·.1) = false
  | [], _ => rfl
  | e :: es, h => by
    rw [List.all_cons, Bool.and_eq_true] at h
    rw [star_cons h.1]
    show (false || (backTo pos (starEach es env)).any (·.1)) = false
    rw [star_any h.2]
    rfl
section
variable {Z : Wd} {c : Pl} {W : WX} {O : Addr → Prop} {σ : L2.St} {σd : Sd} {H H' : Hp} {X : Cx}
def RBs (Z : Wd) (H : Hp) (O : Addr → Prop) : List D → List V → Prop
  | [], [] => True
  | d :: ds, v :: vs => RB Z H O d v ∧ RBs Z H O ds vs
  | _, _ => False
def RvIn (c : Pl) : Es → Prop
  | .nil => True
  | .cons e es => (∀ i, e = .rv i → i ∈ c.own ∨ i ∈ c.bor) ∧ RvIn c es
theorem rrs_ne : ∀ {es : Es} {ds : List D} {σd : Sd} (q : Nat), rrs es ds σd ≠ .exc q
  | .nil, [], _, q => by simp [rrs]
  | .nil, _ :: _, _, q => by simp [rrs]
  | .cons e es, [], _, q => by simp [rrs]
  | .cons e es, d :: ds, σd, q => by
    unfold rrs
    cases h : rr e d σd with
    | ok x =>
      show (rrs es ds σd).bind _ ≠ _
      cases h2 : rrs es ds σd with
      | ok y => intro z; cases z
      | exc k => exact absurd h2 (rrs_ne k)
      | bad => intro z; cases z
    | exc k => exact absurd h (rr_ne k)
    | bad => intro z; cases z
theorem rrs_ok (hr : RelS Z c O σd σ H) : ∀ {es : Es} {ds xs : List D} {vs : List V}, rrs es ds σd = .ok xs → ArgL Z c O σ H es ds vs → RvIn c es → RBs Z H O xs vs
  | .nil, [], xs, [], e, _, _ => by simp [rrs] at e; subst e; trivial
  | .nil, _ :: _, _, _, e, _, _ => by simp [rrs] at e
  | .nil, [], _, _ :: _, _, h, _ => h.elim
  | .cons _ _, [], _, _, e, _, _ => by simp [rrs] at e
  | .cons _ _, _ :: _, _, [], _, h, _ => h.elim
  | .cons k es, d :: ds, xs, v :: vs, e, h, hi => by
    unfold rrs at e
    cases h1 : rr k d σd with
    | ok x =>
      rw [h1] at e
      have e : ((rrs es ds σd).bind fun xs => R.ok (x :: xs)) = .ok xs := e
      cases h2 : rrs es ds σd with
      | ok y =>
        rw [h2] at e
        have e : R.ok (x :: y) = .ok xs := e
        cases e
        refine ⟨rr_ok hr h1 ?_ hi.1, rrs_ok hr h2 h.2 hi.2⟩
        have t := h.1
        cases k <;> exact t
      | exc q => rw [h2] at e; cases e
      | bad => rw [h2] at e; cases e
    | exc q => rw [h1] at e; cases e
    | bad => rw [h1] at e; cases e
structure Oas (X : Cx) (Z : Wd) (c : Pl) (W : WX) (l : Lv) (es : List Expr) (ks : Es) : Prop where
  pa : PA X es (TLe Z c W ks (evbs ks l))
  rv : RvIn c ks
theorem RBs.one {xs : List D} {vs : List V} (h : RBs Z H O xs vs) {x : D} (e : xs = [x]) : ∃ v, vs = [v] ∧ RB Z H O x v := by
  subst e
  match vs, h with
  | [v], h => exact ⟨v, rfl, h.1⟩
theorem RBs.two {xs : List D} {vs : List V} (h : RBs Z H O xs vs) {x y : D} (e : xs = [x, y]) : ∃ v w, vs = [v, w] ∧ RB Z H O x v ∧ RB Z H O y w := by
  subst e
  match vs, h with
  | [v, w], h => exact ⟨v, w, rfl, h.1, h.2.1⟩
/-- what a built-in function gives -/
abbrev Ret (Z : Wd) (c : Pl) (W : WX) (O : Addr → Prop) (σ : L2.St) (σd : Sd) (H : Hp) (d : D) (Q : VK) : Prop := Go Z c W (.ok (d, σd)) O σ H fun d _ H' => ∀ v, Rep Z (hide H' O) d v → Q v H'
theorem s_bi {e : Expr} {es : List Expr} {ks : Es} {l : Lv} {b : Bi} {r : List V → Hp → VK → Prop} (ho : Oas X Z c W l es ks) (hp : ∀ t, PA X es t → PE X e (tCB r t))
    (hr : ∀ O σd σ H0 H xs vs d Q, RelS Z c O σd σ H → (∀ p, Fre H p → Fre H0 p) → RBs Z H O xs vs → biD b xs = some d → RetF Z c W O σ H0 σd H d Q → r vs H Q) : PE X e (TFe Z c W (ev (.bi b ks) l)) :=
  (hp _ ho.pa).weak fun σ H Q ⟨O, σd, h0, hg⟩ => by
    refine ⟨O, σd, h0, (Go.bind (r := evbs ks l σd) hg).imp fun ds σ1 H1 _ r1 k1 g vs av => ?_⟩
    obtain ⟨xs, ex, g2⟩ := g.pure rrs_ne
    obtain ⟨d, ed, g3⟩ := g2.opt
    exact hr O σ1 σ H H1 xs vs d Q r1 (fun p hp => h0.back r1 k1 hp) (rrs_ok r1 ex av ho.rv) ed g3
/-! ### each of them -/
def rB (K : PySem.W.Frag) (b : Bi) : List V → Hp → VK → Prop := match b with
  | .len => fun xs H Q => (∃ x n, xs = [x] ∧ LenV K x H n ∧ Q (.int n) H) ∨ (∃ a kvs, xs = [V.ref a] ∧ H a = some (.dK kvs) ∧ Q (.int kvs.length) H)
  | .abs => fun xs H Q => ∃ i, xs = [.int i] ∧ Q (.int (if i < 0 then -i else i)) H
  | .int => fun xs H Q => (∃ i, xs = [.int i] ∧ Q (.int i) H) ∨ ∃ k, xs = [.bl k] ∧ Q (.int (if k then 1 else 0)) H
  | .list => fun xs H Q => ∃ p ys, xs = [.ref p] ∧ (SqL K H p ys ∨ SqT K H p ys) ∧ ∀ l, H l = none → Q (.ref l) (upd H l (.lst ys))
  | .tuple => fun xs H Q => ∃ p ys, xs = [.ref p] ∧ ((SqL K H p ys ∧ ∀ l, H l = none → Q (.ref l) (upd H l (.tup ys))) ∨ (SqT K H p ys ∧ Q (.ref p) H))
  | .all => rAll K
  | .any => rAny K
  | .sum => fun vs H Q => rSum K vs H Q ∨ rSumT K vs H Q
  | .sorted => rSorted K
  | .min1 => rMin K
  | .max1 => rMax K
  | .min2 => fun xs H Q => ∃ i j, xs = [.int i, .int j] ∧ Q (.int (if j < i then j else i)) H
  | .max2 => fun xs H Q => ∃ i j, xs = [.int i, .int j] ∧ Q (.int (if j > i then j else i)) H
  | _ => fun _ _ _ => False
def bV : Bi → Option Value
  | .len => some (.builtin "len") | .abs => some (.builtin "abs") | .int => some (.type "int") | .list => some (.type "list") | .tuple => some (.type "tuple")
  | .all => some (.builtin "all") | .any => some (.builtin "any") | .sum => some (.builtin "sum") | .sorted => some (.builtin "sorted")
  | .min1 => some (.builtin "min") | .max1 => some (.builtin "max") | .min2 => some (.builtin "min") | .max2 => some (.builtin "max")
  | _ => none
theorem callR_b (hc : X.calm = true) {b : Bi} {f : Value} (h : bV b = some f) : CallR X f (rB X.K b) := by
  cases b <;> simp only [bV, Option.some.injEq] at h <;> first | (subst h) | (cases h; done)
  · exact call_len.or call_lenD
  · exact call_abs
  · exact call_int1
  · exact call_list_of
  · exact call_tuple_of
  · exact cr_all hc
  · exact cr_any hc
  · exact (cr_sum hc).or (cr_sumT hc)
  · exact cr_sorted
  · exact cr_min hc
  · exact cr_max hc
  · exact call_min2 hc
  · exact call_max2 hc
theorem bls_rep : ∀ {xs : List D} {vs : List V} {is : List Bool}, Reps Z H xs vs → bls xs = some is → vs = is.map V.bl
  | _, _, is, .nil, e => by simp [bls] at e; subst e; rfl
  | x :: xs, _, is, .cons a b, e => by
    cases x <;> simp [bls] at e
    obtain ⟨is', e1, rfl⟩ := e
    cases a
    rw [bls_rep b e1]
    rfl
theorem reps_ints {is : List Int} : Reps Z H (intL is) (is.map V.int) := by
  induction is with
  | nil => exact .nil
  | cons i is ih => exact .cons (.int i) ih
theorem repK_length : ∀ {xs : List (D × D)} {vs : List (Key × V)}, RepK Z H xs vs → xs.length = vs.length
  | _, _, .nil => rfl
  | _, _, .cons _ _ t => by simp [repK_length t]
theorem ins_perm (x : Int) : ∀ l : List Int, (ins x l).Perm (x :: l)
  | [] => .refl _
  | y :: r => by
    unfold ins
    split
    · exact .refl _
    · exact ((ins_perm x r).cons y).trans (List.Perm.swap x y r)
theorem isort_perm : ∀ l : List Int, (isort l).Perm l
  | [] => .refl _
  | x :: r => (ins_perm x (isort r)).trans ((isort_perm r).cons x)
theorem ins_sorted (x : Int) : ∀ l : List Int, l.Pairwise (· ≤ ·) → (ins x l).Pairwise (· ≤ ·)
  | [], _ => by simp [ins]
  | y :: r, h => by
    obtain ⟨h1, h2⟩ := List.pairwise_cons.mp h
    unfold ins
    split
    · rename_i hx
      refine List.pairwise_cons.mpr ⟨fun z hz => ?_, h⟩
      rcases List.mem_cons.mp hz with rfl | hz
      · exact hx
      · exact Int.le_trans hx (h1 z hz)
    · rename_i hx
      refine List.pairwise_cons.mpr ⟨fun z hz => ?_, ins_sorted x r h2⟩
      rcases List.mem_cons.mp ((ins_perm x r).mem_iff.mp hz) with rfl | hz
      · omega
      · exact h1 z hz
theorem isort_sorted : ∀ l : List Int, (isort l).Pairwise (· ≤ ·)
  | [] => .nil
  | x :: r => ins_sorted x _ (isort_sorted r)
theorem sorted_uniq : ∀ {a b : List Int}, a.Perm b → a.Pairwise (· ≤ ·) → b.Pairwise (· ≤ ·) → a = b
  | [], b, p, _, _ => by rw [List.nil_perm.mp p]
  | x :: a, [], p, _, _ => by simpa using p.length_eq
  | x :: a, y :: b, p, ha, hb => by
    obtain ⟨a1, a2⟩ := List.pairwise_cons.mp ha
    obtain ⟨b1, b2⟩ := List.pairwise_cons.mp hb
    have hxy : x = y := by
      have h1 : x ∈ y :: b := p.mem_iff.mp List.mem_cons_self
      have h2 : y ∈ x :: a := p.mem_iff.mpr List.mem_cons_self
      rcases List.mem_cons.mp h1 with e | h1
      · exact e
      · rcases List.mem_cons.mp h2 with e | h2
        · exact e.symm
        · have := b1 x h1; have := a1 y h2; omega
    subst hxy
    rw [sorted_uniq ((List.perm_cons x).mp p) a2 b2]
theorem foldl_min : ∀ (l : List Int) (x : Int), (l.foldl min x = x ∨ l.foldl min x ∈ l) ∧ l.foldl min x ≤ x ∧ ∀ y ∈ l, l.foldl min x ≤ y
  | [], x => ⟨.inl rfl, Int.le_refl _, fun _ h => nomatch h⟩
  | y :: l, x => by
    obtain ⟨h1, h2, h3⟩ := foldl_min l (min x y)
    simp only [List.foldl_cons]
    refine ⟨?_, by omega, fun z hz => ?_⟩
    · rcases h1 with e | e
      · rw [e]
        rcases Int.le_total x y with h | h
        · exact .inl (by omega)
        · exact .inr (by rw [show min x y = y by omega]; exact List.mem_cons_self)
      · exact .inr (List.mem_cons_of_mem _ e)
    · rcases List.mem_cons.mp hz with rfl | hz
      · omega
      · exact h3 z hz
theorem foldl_max : ∀ (l : List Int) (x : Int), (l.foldl max x = x ∨ l.foldl max x ∈ l) ∧ x ≤ l.foldl max x ∧ ∀ y ∈ l, y ≤ l.foldl max x
  | [], x => ⟨.inl rfl, Int.le_refl _, fun _ h => nomatch h⟩
  | y :: l, x => by
    obtain ⟨h1, h2, h3⟩ := foldl_max l (max x y)
    simp only [List.foldl_cons]
    refine ⟨?_, by omega, fun z hz => ?_⟩
    · rcases h1 with e | e
      · rw [e]
        rcases Int.le_total x y with h | h
        · exact .inr (by rw [show max x y = y by omega]; exact List.mem_cons_self)
        · exact .inl (by omega)
      · exact .inr (List.mem_cons_of_mem _ e)
    · rcases List.mem_cons.mp hz with rfl | hz
      · omega
      · exact h3 z hz
theorem b_ok (hK : X.K = Z.K) {b : Bi} {xs : List D} {vs : List V} {d : D} {Q : VK} {H0 : Hp} (r : RelS Z c O σd σ H) (hb0 : ∀ p, Fre H p → Fre H0 p) (ra : RBs Z H O xs vs) (e : biD b xs = some d) (hb : (bV b).isSome = true) (q : RetF Z c W O σ H0 σd H d Q) : rB X.K b vs H Q := by
  unfold biD at e
  split at e <;> first | (cases hb; done) | skip
  case h_1 =>
    obtain ⟨v, rfl, rv⟩ := ra.one rfl
    obtain rfl := rv.str
    split at e
    · rename_i h
      cases e
      exact .inl ⟨_, _, rfl, ⟨h, rfl⟩, q.done r rfl (.int _)⟩
    · cases e
  case h_2 =>
    obtain ⟨v, rfl, rv⟩ := ra.one rfl
    obtain ⟨a, ws, rfl, ha, rs⟩ := rv.tup
    cases e
    exact .inl ⟨_, _, rfl, .inr ⟨ws, by rw [hK]; exact ha, rs.length⟩, q.done r rfl (.int _)⟩
  case h_3 =>
    obtain ⟨v, rfl, rv⟩ := ra.one rfl
    obtain ⟨a, ws, rfl, ha, rs⟩ := rv.lst
    cases e
    exact .inl ⟨_, _, rfl, .inl ⟨ws, SqL.of ha, rs.length⟩, q.done r rfl (.int _)⟩
  case h_4 =>
    obtain ⟨v, rfl, rv⟩ := ra.one rfl
    obtain ⟨a, ws, rfl, ha, rs⟩ := rv.dic
    cases e
    rw [repK_length rs] at q
    exact .inr ⟨a, ws, rfl, ha, q.done r rfl (.int _)⟩
  case h_5 =>
    obtain ⟨v, rfl, rv⟩ := ra.one rfl
    obtain rfl := rv.int
    cases e
    exact ⟨_, rfl, q.done r rfl (.int _)⟩
  case h_6 =>
    obtain ⟨v, rfl, rv⟩ := ra.one rfl
    obtain rfl := rv.int
    cases e
    exact .inl ⟨_, rfl, q.done r rfl (.int _)⟩
  case h_7 =>
    obtain ⟨v, rfl, rv⟩ := ra.one rfl
    obtain rfl := rv.bl
    cases e
    exact .inr ⟨_, rfl, q.done r rfl (.int _)⟩
  case h_8 =>
    obtain ⟨v, rfl, rv⟩ := ra.one rfl
    obtain ⟨a, ws, rfl, ha, rs⟩ := rv.tup
    cases e
    exact ⟨a, ws, rfl, .inr (by rw [hK]; exact ha), q.newL r hb0 rs⟩
  case h_9 =>
    obtain ⟨v, rfl, rv⟩ := ra.one rfl
    obtain ⟨a, ws, rfl, ha, rs⟩ := rv.lst
    cases e
    exact ⟨a, ws, rfl, .inl (SqL.of ha), q.newL r hb0 rs⟩
  case h_10 =>
    obtain ⟨v, rfl, rv⟩ := ra.one rfl
    obtain ⟨a, ws, rfl, ha, rs⟩ := rv.frz
    cases e
    exact ⟨a, ws, rfl, .inl (by rw [hK]; exact ha), q.newL r hb0 rs⟩
  case h_11 =>
    obtain ⟨v, rfl, rv⟩ := ra.one rfl
    cases e
    rcases rv with rv | ⟨_, _, _, z⟩
    · cases rv with
      | tup s rs => exact ⟨_, _, rfl, .inr ⟨by rw [hK]; exact (hide_le H O).sqT s, q.done r rfl (.tup s rs)⟩⟩
    · exact z.elim
  case h_12 =>
    obtain ⟨v, rfl, rv⟩ := ra.one rfl
    obtain ⟨a, ws, rfl, ha, rs⟩ := rv.lst
    cases e
    exact ⟨a, ws, rfl, .inl ⟨SqL.of ha, q.newT r rs⟩⟩
  case h_13 =>
    obtain ⟨v, rfl, rv⟩ := ra.one rfl
    obtain ⟨a, ws, rfl, ha, rs⟩ := rv.lst
    obtain ⟨bs, e1, rfl⟩ := Option.map_eq_some_iff.mp e
    rw [bls_rep rs e1] at ha
    exact ⟨a, bs, rfl, SqL.of ha, q.done r rfl (.bl _)⟩
  case h_14 =>
    obtain ⟨v, rfl, rv⟩ := ra.one rfl
    obtain ⟨a, ws, rfl, ha, rs⟩ := rv.lst
    obtain ⟨bs, e1, rfl⟩ := Option.map_eq_some_iff.mp e
    rw [bls_rep rs e1] at ha
    exact ⟨a, bs, rfl, SqL.of ha, q.done r rfl (.bl _)⟩
  case h_15 =>
    obtain ⟨v, rfl, rv⟩ := ra.one rfl
    obtain ⟨a, ws, rfl, ha, rs⟩ := rv.lst
    obtain ⟨bs, e1, rfl⟩ := Option.map_eq_some_iff.mp e
    rw [ints_rep rs e1] at ha
    exact .inl ⟨a, bs, rfl, SqL.of ha, q.done r rfl (.int _)⟩
  case h_16 =>
    obtain ⟨v, rfl, rv⟩ := ra.one rfl
    obtain ⟨a, ws, rfl, ha, rs⟩ := rv.lst
    obtain ⟨is, e1, e2⟩ := Option.bind_eq_some_iff.mp e
    split at e2
    · rename_i hl
      cases e2
      rw [ints_rep rs e1] at ha
      refine ⟨a, is, rfl, SqL.of ha, hl, fun ns p hp hs hn => ?_⟩
      obtain rfl := sorted_uniq (hp.trans (isort_perm is).symm) hs (isort_sorted is)
      exact q.newL r hb0 reps_ints p hn
    · cases e2
  case h_17 =>
    obtain ⟨v, rfl, rv⟩ := ra.one rfl
    obtain ⟨a, ws, rfl, ha, rs⟩ := rv.lst
    obtain ⟨m, e1, rfl⟩ := Option.map_eq_some_iff.mp e
    obtain ⟨is, e2, e3⟩ := Option.bind_eq_some_iff.mp e1
    rw [ints_rep rs e2] at ha
    cases is with
    | nil => cases e3
    | cons x xs =>
      cases e3
      obtain ⟨f1, f2, f3⟩ := foldl_min xs x
      refine ⟨a, x :: xs, rfl, SqL.of ha, Nat.succ_pos _, fun m hm hle => ?_⟩
      have e4 : m = xs.foldl min x := by
        have h1 := hle (xs.foldl min x) (by rcases f1 with z | z; rw [z]; exact List.mem_cons_self; exact List.mem_cons_of_mem _ z)
        rcases List.mem_cons.mp hm with rfl | hm
        · omega
        · have := f3 m hm; omega
      rw [e4]
      exact q.done r rfl (.int _)
  case h_18 =>
    obtain ⟨v, rfl, rv⟩ := ra.one rfl
    obtain ⟨a, ws, rfl, ha, rs⟩ := rv.lst
    obtain ⟨m, e1, rfl⟩ := Option.map_eq_some_iff.mp e
    obtain ⟨is, e2, e3⟩ := Option.bind_eq_some_iff.mp e1
    rw [ints_rep rs e2] at ha
    cases is with
    | nil => cases e3
    | cons x xs =>
      cases e3
      obtain ⟨f1, f2, f3⟩ := foldl_max xs x
      refine ⟨a, x :: xs, rfl, SqL.of ha, Nat.succ_pos _, fun m hm hle => ?_⟩
      have e4 : m = xs.foldl max x := by
        have h1 := hle (xs.foldl max x) (by rcases f1 with z | z; rw [z]; exact List.mem_cons_self; exact List.mem_cons_of_mem _ z)
        rcases List.mem_cons.mp hm with rfl | hm
        · omega
        · have := f3 m hm; omega
      rw [e4]
      exact q.done r rfl (.int _)
  case h_19 =>
    obtain ⟨v, w, rfl, rv, rw'⟩ := ra.two rfl
    obtain rfl := rv.int
    obtain rfl := rw'.int
    cases e
    exact ⟨_, _, rfl, q.done r rfl (.int _)⟩
  case h_20 =>
    obtain ⟨v, w, rfl, rv, rw'⟩ := ra.two rfl
    obtain rfl := rv.int
    obtain rfl := rw'.int
    cases e
    exact ⟨_, _, rfl, q.done r rfl (.int _)⟩
  case h_21 =>
    obtain ⟨v, rfl, rv⟩ := ra.one rfl
    obtain ⟨a, ws, rfl, ha, rs⟩ := rv.tup
    obtain ⟨bs, e1, rfl⟩ := Option.map_eq_some_iff.mp e
    rw [ints_rep rs e1] at ha
    exact .inr ⟨a, bs, rfl, by rw [hK]; exact ha, q.done r rfl (.int _)⟩
  all_goals (cases e; done)
/-! ### isinstance -/
def isB : Bi → Option String
  | .isInt => some "int" | .isBool => some "bool" | .isStr => some "str" | .isTuple => some "tuple" | .isList => some "list" | _ => none
theorem kit_all {K : PySem.W.Frag} : ∀ (b : Bi) (T : String), isB b = some T → ∀ (d : D) (x : D), biD b [d] = some x →
    ∃ (t : String) (k : Bool), x = .bl k ∧ PySem.W.kitOne K (.type t) (.type T) = some k ∧ ((d = .non ∧ t = "NoneType") ∨ (∃ b, d = .bl b ∧ t = "bool") ∨ (∃ i, d = .int i ∧ t = "int") ∨ (∃ s, d = .str s ∧ t = "str") ∨ (∃ xs, d = .tup xs ∧ t = "tuple") ∨ (∃ xs, d = .lst xs ∧ t = "list")) := by
  intro b T hb d x e
  cases b <;> simp only [isB, Option.some.injEq] at hb <;> first | (subst hb) | (cases hb; done)
  all_goals (cases d <;> simp only [biD, Option.some.injEq] at e <;> first | (subst e) | (cases e; done))
  all_goals first
    | exact ⟨"NoneType", _, rfl, kit_ty (by decide +kernel), .inl ⟨rfl, rfl⟩⟩
    | exact ⟨"bool", _, rfl, kit_ty (by decide +kernel), .inr (.inl ⟨_, rfl, rfl⟩)⟩
    | exact ⟨"int", _, rfl, kit_ty (by decide +kernel), .inr (.inr (.inl ⟨_, rfl, rfl⟩))⟩
    | exact ⟨"str", _, rfl, kit_ty (by decide +kernel), .inr (.inr (.inr (.inl ⟨_, rfl, rfl⟩)))⟩
    | exact ⟨"tuple", _, rfl, kit_ty (by decide +kernel), .inr (.inr (.inr (.inr (.inl ⟨_, rfl, rfl⟩))))⟩
    | exact ⟨"list", _, rfl, kit_ty (by decide +kernel), .inr (.inr (.inr (.inr (.inr ⟨_, rfl, rfl⟩))))⟩
theorem tyX_of {d : D} {v : V} {t : String} (r : RB Z H O d v) (h : (d = .non ∧ t = "NoneType") ∨ (∃ b, d = .bl b ∧ t = "bool") ∨ (∃ i, d = .int i ∧ t = "int") ∨ (∃ s, d = .str s ∧ t = "str") ∨ (∃ xs, d = .tup xs ∧ t = "tuple") ∨ (∃ xs, d = .lst xs ∧ t = "list")) : TyX Z.K H v (.type t) := by
  rcases h with ⟨rfl, rfl⟩ | ⟨b, rfl, rfl⟩ | ⟨b, rfl, rfl⟩ | ⟨b, rfl, rfl⟩ | ⟨b, rfl, rfl⟩ | ⟨b, rfl, rfl⟩
  · obtain rfl := r.non; exact .base .non
  · obtain rfl := r.bl; exact .base (.bl _)
  · obtain rfl := r.int; exact .base (.int _)
  · obtain rfl := r.str; exact .base (.str _)
  · obtain ⟨a, vs, rfl, ha, _⟩ := r.tup
    rcases ha with ha | ⟨o, its, n, hk, hc, _⟩
    · rcases ha with ha | ⟨o, ha⟩
      · exact .base (.tup ha)
      · exact .fTuple ha
    · exact .kTuple hk hc
  · obtain ⟨a, vs, rfl, ha, _⟩ := r.lst
    exact .base (.lst ha)
theorem evbs_one {k : E} {l : Lv} {σ : Sd} {β : Type} {g : List D × Sd → R β} : ((evbs (.cons k .nil) l σ).bind fun q => (rrs (.cons k .nil) q.1 q.2).bind fun ds => g (ds, q.2)) = (BF.lent k (ev k l σ) σ).bind fun p => (rr k p.1 p.2).bind fun x => g ([x], p.2) := by
  show ((BF.lent k (ev k l σ) σ).bind fun p => (R.ok ([], p.2)).bind fun q => R.ok (p.1 :: q.1, q.2)).bind _ = _
  cases BF.lent k (ev k l σ) σ with
  | ok q =>
    show ((rr k q.1 q.2).bind fun x => (R.ok []).bind fun xs => R.ok (x :: xs)).bind _ = (rr k q.1 q.2).bind _
    cases rr k q.1 q.2 <;> rfl
  | exc _ => rfl
  | bad => rfl
theorem s_isi (hK : X.K = Z.K) {b : Bi} {T : String} (hb : isB b = some T) {a : Expr} {ka : E} {l : Lv} {y : Str} {e : Expr} {yp : Pos} (ha : Opd X Z c W l a ka) (hy : PE X (.Name y yp) (tC (.ty T))) (hs : notStar a = true)
    (hp : ∀ t, PA X [a, .Name y yp] t → PE X e (tCB (rIsi X.K) t)) : PE X e (TEe Z c W (tP Z) (ev (.bi b (.cons ka .nil)) l)) :=
  (hp _ (pa_cons ha.kept (pa_cons hy pa_nil rfl) (star_cons hs))).weak fun σ H Q ⟨O, σd, h0, hg⟩ => by
    have hg' : Go Z c W ((evbs (.cons ka .nil) l σd).bind fun q => (rrs (.cons ka .nil) q.1 q.2).bind fun ds => (R.ofO (biD b ds)).bind fun d => .ok (d, q.2)) O σ H (fun d _ H' => ∀ v, Rep Z (hide H' O) d v → Q v H') := hg
    rw [evbs_one (g := fun q => (R.ofO (biD b q.1)).bind fun d => .ok (d, q.2))] at hg'
    refine ⟨O, σd, h0, (Go.bind hg').imp fun d σ1 H1 _ r1 k1 g v tk => ?_⟩
    obtain ⟨x, ex, g2⟩ := g.pure rr_ne
    obtain ⟨y, ey, g3⟩ := g2.opt
    have rx : RB Z H1 O x v := rr_ok r1 ex (by have t := tk; cases ka <;> exact t) ha.rvIn
    obtain ⟨t, k, rfl, h1, h2⟩ := kit_all b T hb x y ey
    exact ⟨v, .ty T, .type t, .type T, k, rfl, .ty T, by rw [hK]; exact tyX_of rx h2, h1, g3.done r1 (.bl _)⟩
/-! ### join -/
theorem strs_rep : ∀ {xs : List D} {vs : List V} {is : List Str}, Reps Z H xs vs → dstrs xs = some is → vs = is.map V.str
  | _, _, is, .nil, e => by simp [dstrs] at e; subst e; rfl
  | x :: xs, _, is, .cons a b, e => by
    cases x <;> simp [dstrs] at e
    obtain ⟨is', e1, rfl⟩ := e
    cases a
    rw [strs_rep b e1]
    rfl
theorem pe_of_join (hK : X.K = Z.K) {o a : Expr} {ko ka : E} {l : Lv} {apos pos : Pos} (ho : PE X o (TEe Z c W (tP Z) (ev ko l))) (ha : Opd X Z c W l a ka) (hs : notStar a = true) (hb : attributeBase o "join" X.env (eval o X.env) = eval o X.env) (hl : (apos.endLine == pos.line) = true) :
    PE X (.Call (.Attribute o "join" apos) [a] [] pos) (TEe Z c W (tP Z) (ev (.mt .join ko (.cons ka .nil)) l)) :=
  (pe_join ho ha.kept (by rw [star_cons hs]; rfl) hb hl).weak fun σ H Q ⟨O, σd, h0, hg⟩ => by
    have hg' : Go Z c W ((ev ko l σd).bind fun p => if isStrD p.1 = true then (evbs (.cons ka .nil) l p.2).bind fun q => (rrs (.cons ka .nil) q.1 q.2).bind fun ds => (R.ofO (mtD .join p.1 ds)).bind fun d => .ok (d, q.2) else .bad) O σ H (fun d _ H' => ∀ v, Rep Z (hide H' O) d v → Q v H') := hg
    refine ⟨O, σd, h0, (Go.bind hg').imp fun d σ1 H1 _ r1 k1 g v rv => ?_⟩
    obtain ⟨hd, g⟩ := g.iff
    cases d with
    | str x =>
      cases rv
      rw [evbs_one (g := fun q => (R.ofO (mtD .join (.str x) q.1)).bind fun d => .ok (d, q.2))] at g
      refine ⟨⟨x, rfl⟩, O, σ1, r1, (Go.bind g).imp fun d2 σ2 H2 _ r2 k2 g3 v2 tk2 => ?_⟩
      obtain ⟨y, ey, g5⟩ := g3.pure rr_ne
      obtain ⟨z, ez, g6⟩ := g5.opt
      have ry : RB Z H2 O y v2 := rr_ok r2 ey (by have t := tk2; cases ka <;> exact t) ha.rvIn
      have ez : (((itemsOf y).bind dstrs).bind fun ys => if (ys.map (·.length)).sum + ys.length * x.length ≤ SZ then some (.str (joinS x ys)) else none) = some z := ez
      obtain ⟨ys, e2, e3⟩ := Option.bind_eq_some_iff.mp ez
      obtain ⟨zs, e4, e5⟩ := Option.bind_eq_some_iff.mp e2
      split at e3
      · rename_i hl
        cases e3
        have fin : Q (.str (PySem.Txt.join x ys)) H2 := by
          rw [TL.join_eq]
          exact g6.done r2 (.str _)
        cases y with
        | tup ws =>
          cases e4
          obtain ⟨a, vs, rfl, hv, rs⟩ := ry.tup
          rw [strs_rep rs e5] at hv
          exact ⟨x, a, ys, rfl, rfl, .inr (by rw [hK]; exact hv), hl, fin⟩
        | lst ws =>
          cases e4
          obtain ⟨a, vs, rfl, hv, rs⟩ := ry.lst
          rw [strs_rep rs e5] at hv
          exact ⟨x, a, ys, rfl, rfl, .inl (SqL.of hv), hl, fin⟩
        | frz ws =>
          cases e4
          obtain ⟨a, vs, rfl, hv, rs⟩ := ry.frz
          rw [strs_rep rs e5] at hv
          exact ⟨x, a, ys, rfl, rfl, .inl (by rw [hK]; exact hv), hl, fin⟩
        | _ => cases e4
      · cases e3
    | _ => simp [isStrD] at hd
end
end BF

/-! Snd8 -/
set_option Elab.async false
set_option linter.all false
set_option maxRecDepth 100000
set_option maxHeartbeats 2000000
namespace BF
open PySem L2

/-! ### what a def promises -/
/-- one's own container that stands at the value -/
def RM (Z : Wd) (H : Hp) (O : Addr → Prop) (d : D) (v : V) : Prop := ∃ a, v = .ref a ∧ O a ∧ Cont Z H (hide H O) d a
/-- M: the values of the parameters that are changed -/
def ArgR (Z : Wd) (H : Hp) (O : Addr → Prop) (M : List V) : List Md → List D → List V → Prop
  | [], [], [] => True
  | m :: ps, d :: ds, v :: vs => (match m with
      | .s => Rep Z (hide H O) d v
      | .b => RBx (fun a => V.ref a ∉ M) Z H O d v
      | .m => RM Z H O d v) ∧ ArgR Z H O M ps ds vs
  | _, _, _ => False
def mVals : List Md → List V → List V
  | .m :: ps, v :: vs => v :: mVals ps vs
  | _ :: ps, _ :: vs => mVals ps vs
  | _, _ => []
def OutR (Z : Wd) (H : Hp) (O : Addr → Prop) : List D → List V → Prop
  | [], [] => True
  | d :: ds, v :: vs => RM Z H O d v ∧ OutR Z H O ds vs
  | _, _ => False
/-- what a def gives: fr: a container is new -/
def RetR (Z : Wd) (fr : Bool) (H H' : Hp) (O : Addr → Prop) (d : D) (v : V) (ms : List D) (M : List V) : Prop :=
  (Rep Z (hide H' O) d v ∧ OutR Z H' O ms M) ∧ (fr = true → isContainer d = true → ∃ a, v = .ref a ∧ Fre H a ∧ Cont Z H' (hide H' (plus O a)) d a ∧ OutR Z H' (plus O a) ms M)
def DomO (Z : Wd) (O : Addr → Prop) (H : Hp) : Prop := (∀ a, O a → ∃ o, H a = some o ∧ NT o) ∧ LamX.Tabs Z.T H
def KeepM (M : List V) (H H' : Hp) : Prop := ∀ a o, H a = some o → NT o → V.ref a ∉ M → H' a = some o
def spF (Z : Wd) (fd : Fd) (F : List D → R (D × List D)) : Sp := fun vs H Q E => ∃ O ds, DomO Z O H ∧ ArgR Z H O (mVals fd.ps vs) fd.ps ds vs ∧ (mVals fd.ps vs).Nodup ∧
  match F ds with
  | .ok q => ∀ v H', KeepM (mVals fd.ps vs) H H' → DomO Z O H' → RetR Z fd.fresh H H' O q.1 v q.2 (mVals fd.ps vs) → Q v H'
  | .exc k => ∀ H', KeepM (mVals fd.ps vs) H H' → DomO Z O H' → E (.ref (Z.cad k)) none H'
  | .bad => False
theorem ArgR.length {Z : Wd} {H : Hp} {O : Addr → Prop} {M : List V} : ∀ {ps : List Md} {ds : List D} {vs : List V}, ArgR Z H O M ps ds vs → vs.length = ps.length
  | [], [], [], _ => rfl
  | _ :: _, _ :: _, _ :: _, h => by simp [ArgR.length h.2]
  | [], [], _ :: _, h => h.elim
  | [], _ :: _, _, h => h.elim
  | _ :: _, [], _, h => h.elim
  | _ :: _, _ :: _, [], h => h.elim
section
variable {Z : Wd} {c : Pl} {W : WX} {O : Addr → Prop} {σ : L2.St} {σd : Sd} {H H' : Hp} {X : Cx}
/-! ### the arguments at a call -/
def OutsAt (σ : L2.St) : List Nat → List V → Prop
  | [], [] => True
  | i :: is, v :: vs => σ[i]? = some (some v) ∧ OutsAt σ is vs
  | _, _ => False
/-- the values of the changed arguments stand in their slots -/
theorem outs_vals : ∀ {ps : List Md} {es : Es} {ds : List D} {vs : List V} {own ms : List Nat}, modesOk own ms ps es = true → ArgL Z c O σ H es ds vs → OutsAt σ (outsOf ps es) (mVals ps vs)
  | [], .nil, _, vs, _, _, _, _ => by cases vs <;> trivial
  | [], .cons _ _, _, _, _, _, h, _ => by simp [modesOk] at h
  | m :: _, .nil, _, _, _, _, h, _ => by cases m <;> simp [modesOk] at h
  | m :: ps, .cons k es, [], _, _, _, _, h => h.elim
  | m :: ps, .cons k es, _ :: _, [], _, _, _, h => h.elim
  | m :: ps, .cons k es, d :: ds, v :: vs, own, ms, hm, h => by
    cases m with
    | s => simp only [modesOk, Bool.and_eq_true] at hm; simp only [outsOf, mVals]; exact outs_vals hm.2 h.2
    | b => simp only [modesOk, Bool.and_eq_true] at hm; simp only [outsOf, mVals]; exact outs_vals hm.2 h.2
    | m =>
      simp only [modesOk, Bool.and_eq_true] at hm
      cases k with
      | rv i => exact ⟨h.1, outs_vals hm.2 h.2⟩
      | _ => simp at hm
theorem outs_own : ∀ {ps : List Md} {es : Es} {own ms : List Nat}, modesOk own ms ps es = true → ∀ i ∈ outsOf ps es, i ∈ own
  | [], .nil, _, _, _, _, h => by simp [outsOf] at h
  | [], .cons _ _, _, _, h, _, _ => by simp [modesOk] at h
  | m :: _, .nil, _, _, h, _, _ => by cases m <;> simp [modesOk] at h
  | m :: ps, .cons k es, own, ms, hm, i, hi => by
    cases m with
    | s => simp only [modesOk, Bool.and_eq_true] at hm; simp only [outsOf] at hi; exact outs_own hm.2 i hi
    | b => simp only [modesOk, Bool.and_eq_true] at hm; simp only [outsOf] at hi; exact outs_own hm.2 i hi
    | m =>
      simp only [modesOk, Bool.and_eq_true] at hm
      cases k with
      | rv j =>
        rcases List.mem_cons.mp (show i ∈ j :: outsOf ps es from hi) with rfl | h
        · simpa using hm.1
        · exact outs_own hm.2 i h
      | _ => simp at hm
theorem outsAt_mem {σ : L2.St} : ∀ {is : List Nat} {M : List V} {v : V}, OutsAt σ is M → v ∈ M → ∃ i ∈ is, σ[i]? = some (some v)
  | [], [], _, _, h => nomatch h
  | [], _ :: _, _, h, _ => h.elim
  | _ :: _, [], _, h, _ => h.elim
  | i :: is, w :: M, v, h, hv => by
    rcases List.mem_cons.mp hv with rfl | hv
    · exact ⟨i, List.mem_cons_self, h.1⟩
    · obtain ⟨j, hj, e⟩ := outsAt_mem h.2 hv
      exact ⟨j, List.mem_cons_of_mem _ hj, e⟩
theorem args_ok (hr : RelS Z c O σd σ H) (own ms : List Nat) (M : List V) (ho : ∀ i ∈ own, i ∈ c.own) (hms : ∀ i ∈ ms, i ∈ c.own) (hM : OutsAt σ ms M) : ∀ {ps : List Md} {es : Es} {ds xs : List D} {vs : List V}, modesOk own ms ps es = true → rrs es ds σd = .ok xs → ArgL Z c O σ H es ds vs → RvIn c es → ArgR Z H O M ps xs vs
  | [], .nil, [], xs, [], _, e, _, _ => by simp [rrs] at e; subst e; trivial
  | [], .nil, _ :: _, _, _, _, e, _, _ => by simp [rrs] at e
  | [], .nil, [], _, _ :: _, _, _, h, _ => h.elim
  | [], .cons _ _, _, _, _, h, _, _, _ => by simp [modesOk] at h
  | m :: _, .nil, _, _, _, h, _, _, _ => by cases m <;> simp [modesOk] at h
  | _ :: _, .cons _ _, [], _, _, _, e, _, _ => by simp [rrs] at e
  | _ :: _, .cons _ _, _ :: _, _, [], _, _, h, _ => h.elim
  | m :: ps, .cons k es, d :: ds, xs, v :: vs, hm, e, h, hi => by
    unfold rrs at e
    cases h1 : rr k d σd with
    | ok x =>
      rw [h1] at e
      have e : ((rrs es ds σd).bind fun xs => R.ok (x :: xs)) = .ok xs := e
      cases h2 : rrs es ds σd with
      | ok y =>
        rw [h2] at e
        have e : R.ok (x :: y) = .ok xs := e
        cases e
        cases m with
        | s =>
          simp only [modesOk, Bool.and_eq_true] at hm
          refine ⟨?_, args_ok hr own ms M ho hms hM hm.2 h2 h.2 hi.2⟩
          have t := h.1
          cases k with
          | rv i => simp [isRv] at hm
          | _ => simp [rr] at h1; subst h1; exact t
        | b =>
          simp only [modesOk, Bool.and_eq_true] at hm
          refine ⟨?_, args_ok hr own ms M ho hms hM hm.2 h2 h.2 hi.2⟩
          have t := h.1
          cases k with
          | rv i =>
            have t : σ[i]? = some (some v) := t
            obtain ⟨w, e2, q2, q3, _⟩ := hr.slot i x (getS_ok h1)
            rw [t] at e2
            obtain rfl : v = w := by simpa using e2
            have nms : i ∉ ms := by
              have := hm.1
              simpa using this
            by_cases hio : i ∈ c.own
            · obtain ⟨a, ea, ct⟩ := q2 hio
              refine .inr ⟨a, ea, hr.own i hio a (by rw [t, ea]), fun hv => ?_, ct⟩
              obtain ⟨j, hj, ej⟩ := outsAt_mem hM hv
              exact nms (hr.inj i hio j (hms j hj) a (by rw [t, ea]) ej ▸ hj)
            · rcases hi.1 i rfl with z | z
              · exact absurd z hio
              · rcases q3 hio z with q | ⟨a, ea, oa, na, ct⟩
                · exact .inl q
                · refine .inr ⟨a, ea, oa, fun hv => ?_, ct⟩
                  obtain ⟨j, hj, ej⟩ := outsAt_mem hM hv
                  exact na.1 j (hms j hj) ej
          | _ => simp [rr] at h1; subst h1; exact .inl t
        | m =>
          simp only [modesOk, Bool.and_eq_true] at hm
          refine ⟨?_, args_ok hr own ms M ho hms hM hm.2 h2 h.2 hi.2⟩
          cases k with
          | rv i =>
            have hi' : i ∈ own := by simpa using hm.1
            obtain ⟨w, e2, q2, _, _⟩ := hr.slot i x (getS_ok h1)
            have t : σ[i]? = some (some v) := h.1
            rw [t] at e2
            obtain rfl : v = w := by simpa using e2
            obtain ⟨a, ea, ct⟩ := q2 (ho i hi')
            exact ⟨a, ea, hr.own i (ho i hi') a (by rw [t, ea]), ct⟩
          | _ => simp at hm
      | exc q => rw [h2] at e; cases e
      | bad => rw [h2] at e; cases e
    | exc q => rw [h1] at e; cases e
    | bad => rw [h1] at e; cases e
theorem nodup_of : ∀ {l : List Nat}, nodupB l = true → l.Nodup
  | [], _ => .nil
  | x :: r, h => by
    simp only [nodupB, Bool.and_eq_true] at h
    refine List.nodup_cons.mpr ⟨?_, nodup_of h.2⟩
    have := h.1
    simpa using this
/-- the changed values are apart -/
theorem outs_nodup (hr : RelS Z c O σd σ H) : ∀ {is : List Nat} {M : List V}, OutsAt σ is M → is.Nodup → (∀ i ∈ is, i ∈ c.own) → (∀ v ∈ M, ∃ a, v = .ref a) → M.Nodup
  | [], [], _, _, _, _ => .nil
  | [], _ :: _, h, _, _, _ => h.elim
  | _ :: _, [], h, _, _, _ => h.elim
  | i :: is, v :: M, h, hn, ho, hM => by
    obtain ⟨n1, n2⟩ := List.nodup_cons.mp hn
    refine List.nodup_cons.mpr ⟨fun hv => ?_, outs_nodup hr h.2 n2 (fun j hj => ho j (List.mem_cons_of_mem _ hj)) fun w hw => hM w (List.mem_cons_of_mem _ hw)⟩
    obtain ⟨j, hj, ej⟩ := outsAt_mem h.2 hv
    obtain ⟨a, rfl⟩ := hM v List.mem_cons_self
    exact n1 (hr.inj i (ho i List.mem_cons_self) j (ho j (List.mem_cons_of_mem _ hj)) a h.1 ej ▸ hj)
theorem mVals_ref {M : List V} : ∀ {ps : List Md} {ds : List D} {vs : List V}, ArgR Z H O M ps ds vs → ∀ v ∈ mVals ps vs, ∃ a, v = .ref a
  | [], [], [], _, v, h => nomatch h
  | [], _ :: _, _, h, _, _ => h.elim
  | [], [], _ :: _, h, _, _ => h.elim
  | _ :: _, [], _, h, _, _ => h.elim
  | _ :: _, _ :: _, [], h, _, _ => h.elim
  | m :: ps, d :: ds, v :: vs, h, w, hw => by
    cases m with
    | s => exact mVals_ref h.2 w hw
    | b => exact mVals_ref h.2 w hw
    | m =>
      rcases List.mem_cons.mp (show w ∈ v :: mVals ps vs from hw) with rfl | hw
      · obtain ⟨a, ea, _⟩ := h.1; exact ⟨a, ea⟩
      · exact mVals_ref h.2 w hw
theorem keepM_E {M : List V} {is : List Nat} (hM : OutsAt σ is M) (ho : ∀ i ∈ is, i ∈ c.own) (k : KeepM M H H') : KeepE c σ H H' := fun a o e t n => k a o e t fun hv => by
  obtain ⟨i, hi, ei⟩ := outsAt_mem hM hv
  exact n i (ho i hi) ei
theorem putOuts_len : ∀ {is : List Nat} {ds : List D} {σd σ' : Sd}, putOuts is ds σd = .ok σ' → σ'.length = σd.length
  | [], [], _, _, e => by simp [putOuts] at e; rw [e]
  | [], _ :: _, _, _, e => by simp [putOuts] at e
  | _ :: _, [], _, _, e => by simp [putOuts] at e
  | i :: is, d :: ds, σd, σ', e => by
    have := putOuts_len (show putOuts is ds (σd.set i (some d)) = .ok σ' from e)
    simpa using this
theorem putOuts_at : ∀ {is : List Nat} {ds : List D} {M : List V} {σd σ' : Sd} {i : Nat} {d : D}, putOuts is ds σd = .ok σ' → OutsAt σ is M → OutR Z H O ds M → is.Nodup → σ'[i]? = some (some d) →
    (i ∈ is ∧ ∃ v, v ∈ M ∧ σ[i]? = some (some v) ∧ RM Z H O d v) ∨ (i ∉ is ∧ σd[i]? = some (some d))
  | [], [], _, _, _, i, d, e, _, _, _, h => by simp [putOuts] at e; subst e; exact .inr ⟨by simp, h⟩
  | [], _ :: _, _, _, _, _, _, e, _, _, _, _ => by simp [putOuts] at e
  | _ :: _, [], _, _, _, _, _, e, _, _, _, _ => by simp [putOuts] at e
  | _ :: _, _ :: _, [], _, _, _, _, _, h, _, _, _ => h.elim
  | j :: is, x :: ds, v :: M, σd, σ', i, d, e, h, ho, hn, hi => by
    obtain ⟨n1, n2⟩ := List.nodup_cons.mp hn
    rcases putOuts_at (show putOuts is ds (σd.set j (some x)) = .ok σ' from e) h.2 ho.2 n2 hi with ⟨h1, v', h2, h3⟩ | ⟨h1, h2⟩
    · exact .inl ⟨List.mem_cons_of_mem _ h1, v', List.mem_cons_of_mem _ h2, h3⟩
    · by_cases hij : i = j
      · subst hij
        rw [List.getElem?_set_self'] at h2
        cases hσ : σd[i]? with
        | none => rw [hσ] at h2; simp at h2
        | some z =>
          rw [hσ] at h2
          simp at h2
          subst h2
          exact .inl ⟨List.mem_cons_self, v, List.mem_cons_self, h.1, ho.1⟩
      · rw [List.getElem?_set_ne (Ne.symm hij)] at h2
        exact .inr ⟨fun z => (List.mem_cons.mp z).elim hij h1, h2⟩
/-- behind a call: O' has new addresses alone beside those of O -/
theorem RelS.callN {O' L : Addr → Prop} (hr : RelS Z c O σd σ H) {is : List Nat} {ds : List D} {M : List V} {σ' : Sd} (hO : ∀ b, O b → O' b) (hN : ∀ b o, H b = some o → NT o → ¬ O b → ¬ O' b) (hL : ∀ b, O b → ¬ c.lock b → ¬ L b) (hM : OutsAt σ is M) (ho : ∀ i ∈ is, i ∈ c.own) (hn : is.Nodup) (k : KeepM M H H') (hd : DomO Z O' H') (out : OutR Z H' O' ds M) (e : putOuts is ds σd = .ok σ') : RelS Z { c with lock := L } O' σ' σ H' := by
  have kE := keepM_E hM ho k
  have le : Le (hide H O) (hide H' O') := hide_mono fun a o e t n => ⟨kE a o e t (hr.notOwn n), hN a o e t n⟩
  refine ⟨(putOuts_len e).trans hr.len, hd.1, hd.2, fun i hi a ea => hO a (hr.own i hi a ea), hr.inj, fun i d ei => ?_, hr.hold⟩
  rcases putOuts_at e hM out hn ei with ⟨h1, v, h2, h3, a, ea, oa, ct⟩ | ⟨h1, h2⟩
  · exact ⟨v, h3, fun _ => ⟨a, ea, ct⟩, fun z => absurd (ho i h1) z, fun z => absurd (ho i h1) z⟩
  · obtain ⟨v, q1, q2, q3, q4⟩ := hr.slot i d h2
    refine ⟨v, q1, fun z => ?_, fun z1 z2 => ?_, fun z1 z2 => (q4 z1 z2).le le⟩
    · obtain ⟨a, ea, ct⟩ := q2 z
      refine ⟨a, ea, ct.monoN le fun o q t => k a o q t fun hv => ?_⟩
      obtain ⟨j, hj, ej⟩ := outsAt_mem hM hv
      exact h1 (hr.inj i z j (ho j hj) a (by rw [q1, ea]) ej ▸ hj)
    · rcases q3 z1 z2 with q | ⟨a, ea, oa, na, ct⟩
      · exact .inl (q.le le)
      · exact .inr ⟨a, ea, hO a oa, ⟨na.1, hL a oa na.2⟩, ct.monoN le fun o q t => kE a o q t na.1⟩
theorem RelS.call (hr : RelS Z c O σd σ H) {is : List Nat} {ds : List D} {M : List V} {σ' : Sd} (hM : OutsAt σ is M) (ho : ∀ i ∈ is, i ∈ c.own) (hn : is.Nodup) (k : KeepM M H H') (hd : DomO Z O H') (out : OutR Z H' O ds M) (e : putOuts is ds σd = .ok σ') : RelS Z c O σ' σ H' :=
  hr.callN (L := c.lock) (fun _ h => h) (fun _ _ _ _ h => h) (fun _ _ h => h) hM ho hn k hd out e
end
end BF

/-! Snd9 -/
set_option Elab.async false
set_option linter.all false
set_option maxRecDepth 100000
set_option maxHeartbeats 2000000
namespace BF
open PySem L2

section
variable {Z : Wd} {c : Pl} {W : WX} {O : Addr → Prop} {σ : L2.St} {σd : Sd} {H H' : Hp} {X : Cx}
theorem domO_of (r : RelS Z c O σd σ H) : DomO Z O H := ⟨r.dom, r.tab⟩
/-- the call of a def, from its arguments on -/
theorem call_sp {fd : Fd} {F : List D → R (D × List D)} {ks : Es} {own : List Nat} {H0 : Hp} {ds : List D} {vs : List V} {Q : VK} (hsub : ∀ i ∈ own, i ∈ c.own) (hr : RelS Z c O σd σ H) (hb0 : ∀ p, Fre H p → Fre H0 p) (hw : ∀ q, F q ≠ .bad ∨ True) (av : ArgL Z c O σ H ks ds vs) (hrv : RvIn c ks)
    (hm : modesOk own (outsOf fd.ps ks) fd.ps ks = true) (hn : nodupB (outsOf fd.ps ks) = true)
    (g : Go Z c W ((rrs ks ds σd).bind fun xs => (F xs).bind fun r => (putOuts (outsOf fd.ps ks) r.2 σd).bind fun σ' => .ok (r.1, σ')) O σ H (if fd.fresh then KF Z c O σ H0 Q else fun d _ H' => ∀ v, Rep Z (hide H' O) d v → Q v H')) : spF Z fd F vs H Q (WE W σ) := by
  obtain ⟨xs, ex, g⟩ := g.pure rrs_ne
  have hM := outs_vals hm av
  have hown : ∀ i ∈ outsOf fd.ps ks, i ∈ c.own := fun i hi => hsub i (outs_own hm i hi)
  have ar := args_ok hr own _ _ hsub hown hM hm ex av hrv
  refine ⟨O, xs, domO_of hr, ar, outs_nodup hr hM (nodup_of hn) hown (mVals_ref ar), ?_⟩
  revert g
  cases hF : F xs with
  | bad => intro g; exact g
  | exc k =>
    intro g H' km hd
    have rn : RelS Z c O (List.replicate σ.length none) σ H' := by
      have kE := keepM_E hM hown km
      refine ⟨by simp, hd.1, hd.2, hr.own, hr.inj, fun i d e => ?_, hr.hold⟩
      rw [List.getElem?_replicate] at e
      split at e <;> simp at e
    exact g H' rn (keepM_E hM hown km)
  | ok q =>
    intro g v H' km hd rt
    have g : Go Z c W ((putOuts (outsOf fd.ps ks) q.2 σd).bind fun σ' => .ok (q.1, σ')) O σ H _ := g
    cases hp : putOuts (outsOf fd.ps ks) q.2 σd with
    | ok σ' =>
      rw [hp] at g
      have r' := hr.call hM hown (nodup_of hn) km hd rt.1.2 hp
      have kE := keepM_E hM hown km
      have g := Go.ok (q := (q.1, σ')) g r' kE
      cases hf : fd.fresh with
      | false => rw [hf] at g; exact g v rt.1.1
      | true =>
        rw [hf] at g
        refine g v (fun hc => ?_) rt.1.1
        obtain ⟨a, ea, ha, ct, out⟩ := rt.2 hf hc
        refine ⟨a, ea, hb0 a ha, ct, ?_⟩
        -- the state with the new object as one's own
        have hd' : DomO Z (plus O a) H' := ⟨fun b hb => by
          rcases hb with hb | rfl
          · exact hd.1 b hb
          · rcases hq : q.1 with _ | _ | _ | _ | _ | _ | _ | _ | _ | _ <;> rw [hq] at ct hc <;> first | (simp [isContainer] at hc; done) | skip
            · obtain ⟨vs, e, _⟩ := ct; exact ⟨_, e, nt_lst⟩
            · obtain ⟨vs, e, _⟩ := ct; exact ⟨_, e, nt_dK⟩, hd.2⟩
        exact hr.callN (L := plus c.lock a) (fun b h => .inl h) (fun b o e t n h => h.elim n fun z => by rw [z] at e; exact ha o e t) (fun b ob nb z => z.elim nb fun e => by obtain ⟨o, q, t⟩ := hr.dom b ob; rw [e] at q; exact ha o q t) hM hown (nodup_of hn) km hd' out hp
    | exc k => rw [hp] at g; exact absurd hp (by
        intro z
        have : ∀ (is : List Nat) (ds : List D) (σ : Sd) (k : Nat), putOuts is ds σ ≠ .exc k := by
          intro is
          induction is with
          | nil => intro ds σ k; cases ds <;> simp [putOuts]
          | cons i is ih => intro ds σ k; cases ds with
            | nil => simp [putOuts]
            | cons d ds => simp only [putOuts]; exact ih _ _ _
        exact this _ _ _ _ z)
    | bad => rw [hp] at g; exact g.elim
/-- .. of what gives a new container if fr says so -/
def KG (Z : Wd) (c : Pl) (O : Addr → Prop) (σ : L2.St) (H0 : Hp) (fr : Bool) (Q : VK) : D → Sd → Hp → Prop := if fr then KF Z c O σ H0 Q else fun d _ H' => ∀ v, Rep Z (hide H' O) d v → Q v H'
def TGe (Z : Wd) (c : Pl) (W : WX) (fr : Bool) (f : Sd → R (D × Sd)) : TE := fun σ H Q => ∃ O σd, RelS Z c O σd σ H ∧ Go Z c W (f σd) O σ H (KG Z c O σ H fr Q)
theorem _root_.L2.PE.ofG {e : Expr} {f : Sd → R (D × Sd)} {fr : Bool} (h : PE X e (TGe Z c W fr f)) : PE X e (TEe Z c W (tP Z) f) := by
  cases fr with
  | false => exact h
  | true => exact PE.ofF h
theorem _root_.L2.PE.ofGF {e : Expr} {f : Sd → R (D × Sd)} (h : PE X e (TGe Z c W true f)) : PE X e (TFe Z c W f) := h
theorem pe_callS0 {CX : CXT} {k : Nat} {f : Addr} {fd : FuncData} {ps : List Str} {sp : Sp} {E : L2.St → XK} {x : Str} {p pos : Pos} (F : FnOk X.prog X.w X.K X.mg X.base CX k f fd ps sp) (hr : Room k X.A) (hg : Gl X x) (hm : X.mg x = some (.ref f)) (hk : PySem.W.keepIn X.K (.ref f) = true) (hb : Binds X.K fd ps []) (hx : ∀ σ, PassesAt CX X σ (E σ))
    (hdb : (x == ("__debug__" : Str)) = false) : PE X (.Call (.Name x p) [] [] pos) (tCallS sp E tNil) := by
  refine ⟨fun pins s σ H Q I h => ?_⟩
  refine wpAny_Call_Name_kw (ld_glob I hg hm ?_ hdb)
  exact PySem.W.callWith_K0 I.kIn hk (run_fnS (us := []) F hr hb (hx σ) I .nil h)
/-- what a level's defs are in this body -/
structure FnIn (X : Cx) (Z : Wd) (k : Nat) (f : Nat) (fd : Fd) (F : List D → R (D × List D)) : Prop where
  ex : ∃ (fdt : FuncData) (ps : List Str), FnOk X.prog X.w X.K X.mg X.base (L2N.CX X.prog X.w) k (Z.fad f) fdt ps (spF Z fd F) ∧ Binds X.K fdt ps [] ∧ PySem.W.keepIn X.K (.ref (Z.fad f)) = true
theorem call_go {fd : Fd} {F : List D → R (D × List D)} {ks : Es} {own : List Nat} {H0 : Hp} {ds : List D} {vs : List V} {Q : VK} (hsub : ∀ i ∈ own, i ∈ c.own) (hr : RelS Z c O σd σ H) (hb0 : ∀ p, Fre H p → Fre H0 p) (av : ArgL Z c O σ H ks ds vs) (hrv : RvIn c ks)
    (hm : (modesOk own (outsOf fd.ps ks) fd.ps ks && nodupB (outsOf fd.ps ks)) = true)
    (g : Go Z c W ((rrs ks ds σd).bind fun xs => (F xs).bind fun r => (putOuts (outsOf fd.ps ks) r.2 σd).bind fun σ' => .ok (r.1, σ')) O σ H (KG Z c O σ H0 fd.fresh Q)) : spF Z fd F vs H Q (WE W σ) := by
  rw [Bool.and_eq_true] at hm
  exact call_sp hsub hr hb0 (fun _ => .inr trivial) av hrv hm.1 hm.2 g
theorem pe_of_call {es : List Expr} {ks : Es} {l : Lv} {x : Str} {p pos : Pos} {k f : Nat} {fd : Fd} (hF : FnIn X Z k f fd (l.F f)) (hl : l.tb[f]? = some fd) (hr : Room k X.A) (hg : Gl X x) (hm : X.mg x = some (.ref (Z.fad f))) (tk : L2N.Takes X W)
    (ha : Oas X Z c W l es ks) (hz : es = [] → ks = .nil ∨ ∀ σ, evbs ks l σ = .bad) (hsub : ∀ i ∈ l.own, i ∈ c.own) (hs : es.all notStar = true) (hdb : (x == ("__debug__" : Str)) = false) : PE X (.Call (.Name x p) es [] pos) (TGe Z c W fd.fresh (ev (.call f ks) l)) := by
  obtain ⟨fdt, ps, F, hb, hk⟩ := hF.ex
  have main : ∀ t', (∀ σ H Q, TLe Z c W ks (evbs ks l) σ H Q → t' σ H Q) → PE X (.Call (.Name x p) es [] pos) (tCallS (spF Z fd (l.F f)) (WE W) t') → PE X (.Call (.Name x p) es [] pos) (TGe Z c W fd.fresh (ev (.call f ks) l)) := fun t' ht h => h.weak fun σ H Q ⟨O, σd, h0, hg⟩ => by
    have hg' : Go Z c W (if (modesOk l.own (outsOf fd.ps ks) fd.ps ks && nodupB (outsOf fd.ps ks)) = true then
        (evbs ks l σd).bind fun q => (rrs ks q.1 q.2).bind fun ds => (l.F f ds).bind fun r => (putOuts (outsOf fd.ps ks) r.2 q.2).bind fun σ' => .ok (r.1, σ') else .bad) O σ H (KG Z c O σ H fd.fresh Q) := by
      unfold ev at hg; rw [hl] at hg; exact hg
    obtain ⟨hmo, g⟩ := hg'.iff
    refine ht σ H _ ⟨O, σd, h0, (Go.bind (r := evbs ks l σd) g).imp fun ds σ1 H1 _ r1 k1 g vs av => ?_⟩
    exact call_go hsub r1 (fun p hp => h0.back r1 k1 hp) av ha.rv hmo g
  cases es with
  | nil =>
    refine main tNil (fun σ H Q h => ?_) (pe_callS0 F hr hg hm hk hb (L2N.passAt tk) hdb)
    obtain ⟨O, σd, h0, g⟩ := h
    rcases hz rfl with rfl | hb
    · exact g.ok h0 KeepE.refl [] trivial
    · rw [hb] at g; exact g.elim
  | cons e es =>
    rw [List.all_cons, Bool.and_eq_true] at hs
    exact main _ (fun _ _ _ h => h) (pe_callS F hr hg hm hk hb (L2N.passAt tk) ha.pa hdb (star_cons hs.1) (star_any hs.2))
/-- a call of a local name that holds a def -/
def tCallX (X : Cx) (W : WX) (i k : Nat) (t : TA) : TE := fun σ H Q => ∃ f sp, σ[i]? = some (some (.ref f)) ∧ (∃ (fdt : FuncData) (ps : List Str), FnOk X.prog X.w X.K X.mg X.base (L2N.CX X.prog X.w) k f fdt ps sp ∧ Binds X.K fdt ps [] ∧ PySem.W.keepIn X.K (.ref f) = true) ∧ t σ H fun vs H1 => sp vs H1 Q (WE W σ)
theorem pe_callX {x : Str} {p pos : Pos} {i k : Nat} {e : Expr} {es : List Expr} {t : TA} (hr : Room k X.A) (hN : X.N[i]? = some x) (hv : Vis X.env.scope x) (tk : L2N.Takes X W) (ha : PA X (e :: es) t) (hdb : (x == ("__debug__" : Str)) = false) (hcd : (x == ("__classdict__" : Str)) = false)
    (he : starEach (e :: es) X.env = (false, eval e X.env) :: starEach es X.env) (hpl : (backTo pos (starEach es X.env)).any (·.1) = false) : PE X (.Call (.Name x p) (e :: es) [] pos) (tCallX X W i k t) := by
  refine ⟨fun pins s σ H Q I h => ?_⟩
  obtain ⟨f, sp, hs, ⟨fdt, ps, F, hb, hk⟩, ht⟩ := h
  refine wpAny_Call_Name_kw (thn ((pe_var (pos := p) hN hv hdb hcd).run pins s σ H (fun v H1 => v = .ref f ∧ H1 = H) I ⟨.ref f, hs, rfl, rfl⟩) fun u s1 ⟨v, H1, I1, r1, q1⟩ => ?_)
  obtain ⟨rfl, rfl⟩ := q1
  cases r1
  refine PySem.W.callWith_K (h₀ := X.base) I.ok.mod.kin hk (thn (ha.run pos pins s1 σ _ _ I1 ht) fun us s2 ⟨vs, H2, I2, r, q⟩ => ⟨I2.kIn, ?_⟩) he hpl
  exact run_fnS F hr hb (L2N.passAt tk σ) I2 r q
theorem pe_of_cal {e : Expr} {es : List Expr} {ks : Es} {l : Lv} {x : Str} {p pos : Pos} {i k : Nat} (hF : ∀ f fd, l.tb[f]? = some fd → FnIn X Z k f fd (l.F f)) (hr : Room k X.A) (hN : X.N[i]? = some x) (hv : Vis X.env.scope x) (n1 : i ∉ c.own) (n2 : i ∉ c.bor) (tk : L2N.Takes X W)
    (ha : Oas X Z c W l (e :: es) ks) (hs : (e :: es).all notStar = true) (hdb : (x == ("__debug__" : Str)) = false) (hcd : (x == ("__classdict__" : Str)) = false) : PE X (.Call (.Name x p) (e :: es) [] pos) (TEe Z c W (tP Z) (ev (.cal i ks) l)) := by
  rw [List.all_cons, Bool.and_eq_true] at hs
  refine (pe_callX hr hN hv tk ha.pa hdb hcd (star_cons hs.1) (star_any hs.2)).weak fun σ H Q ⟨O, σd, h0, hg⟩ => ?_
  unfold ev at hg
  obtain ⟨d, ed, hg⟩ := Go.get hg
  cases d with
  | fn f =>
    dsimp only at hg
    cases hf : l.tb[f]? with
    | none => rw [hf] at hg; exact hg.elim
    | some fd =>
      rw [hf] at hg
      obtain ⟨hmo, g⟩ := Go.iff hg
      obtain ⟨v, e2, _, _, h4⟩ := h0.slot i _ ed
      have rv := h4 n1 n2
      cases rv
      refine ⟨_, _, e2, (hF f fd hf).ex, O, σd, h0, (Go.bind (r := evbs ks l σd) g).imp fun ds σ1 H1 _ r1 k1 g vs av => ?_⟩
      refine call_go (own := []) (H0 := H) (fun i hi => nomatch hi) r1 (fun p hp => h0.back r1 k1 hp) av ha.rv hmo ?_
      show Go Z c W _ O σ H1 (KG Z c O σ H fd.fresh Q)
      have g2 : Go Z c W ((rrs ks ds σ1).bind fun xs => (l.F f xs).bind fun r => (putOuts (outsOf fd.ps ks) r.2 σ1).bind fun σ' => .ok (r.1, σ')) O σ H1 (fun d _ H' => ∀ v, Rep Z (hide H' O) d v → Q v H') := g
      refine g2.imp fun d σ2 H2 _ r2 k2 q => ?_
      unfold KG
      cases fd.fresh with
      | false => exact q
      | true => exact fun v _ rv => q v rv
  | _ => exact hg.elim
end
end BF

/-! Snd10 -/
set_option Elab.async false
set_option linter.all false
set_option maxRecDepth 100000
set_option maxHeartbeats 2000000
namespace BF
open PySem L2

section
variable {Z : Wd} {c : Pl} {W : WX} {O : Addr → Prop} {σ : L2.St} {σd : Sd} {H H' : Hp} {X : Cx}
/-- a list or a dict -/
def LD (o : HO) : Prop := (∃ xs, o = .lst xs) ∨ ∃ ks, o = .dK ks
theorem LD.nt {o : HO} (h : LD o) : NT o := by
  rcases h with ⟨xs, rfl⟩ | ⟨xs, rfl⟩
  · exact nt_lst
  · exact nt_dK
theorem tabs_upd {T : List (Addr × Str)} {a : Addr} {o0 o : HO} (h : LamX.Tabs T H) (e : H a = some o0) (t : LD o0) : LamX.Tabs T (upd H a o) := fun p hp => by
  obtain ⟨ps, h1, h2, h3⟩ := h p hp
  have ne1 : p.1 ≠ a := fun z => by
    rw [z, e] at h1
    exact t.nt ps (by simpa using h1)
  refine ⟨ps, by rw [upd_ne ne1]; exact h1, h2, fun pos cv hc => ?_⟩
  obtain ⟨c, e1, e2⟩ := h3 pos cv hc
  refine ⟨c, e1, ?_⟩
  have ne2 : c ≠ a := fun z => by
    rw [z, e] at e2
    have e2 : o0 = LamX.CodeO a p.2 := by simpa using e2
    rcases t with ⟨xs, z⟩ | ⟨xs, z⟩ <;> · rw [z] at e2; unfold LamX.CodeO at e2; cases e2
  rw [upd_ne ne2]; exact e2
theorem hide_upd {a : Addr} {o : HO} (oa : O a) : hide (upd H a o) O = hide H O := by
  funext b
  by_cases hb : b = a
  · subst hb
    unfold hide
    rw [if_pos (.inl oa), if_pos (.inl oa)]
  · unfold hide
    rw [upd_ne hb]
/-- one's own container is written -/
theorem RelS.setOwn (r : RelS Z c O σd σ H) {i : Nat} {a : Addr} {d : D} {o0 o : HO} (hi : i ∈ c.own) (e : σ[i]? = some (some (.ref a))) (h0 : H a = some o0) (t0 : LD o0) (t : LD o) (ct : Cont Z (upd H a o) (hide H O) d a) :
    RelS Z c O (σd.set i (some d)) σ (upd H a o) ∧ KeepE c σ H (upd H a o) := by
  have oa : O a := r.own i hi a e
  have hh : hide (upd H a o) O = hide H O := hide_upd oa
  refine ⟨⟨by rw [List.length_set]; exact r.len, fun b hb => ?_, tabs_upd r.tab h0 t0, r.own, r.inj, fun j d' ej => ?_, r.hold⟩, fun b u eb _ nb => ?_⟩
  · by_cases z : b = a
    · subst z; exact ⟨o, upd_same, t.nt⟩
    · rw [upd_ne z]; exact r.dom b hb
  · rw [hh]
    by_cases z : j = i
    · subst z
      rw [List.getElem?_set_self'] at ej
      cases hσ : σd[j]? with
      | none => rw [hσ] at ej; simp at ej
      | some q =>
        rw [hσ] at ej
        simp at ej
        subst ej
        exact ⟨_, e, fun _ => ⟨a, rfl, ct⟩, fun z => absurd hi z, fun z => absurd hi z⟩
    · rw [List.getElem?_set_ne (Ne.symm z)] at ej
      obtain ⟨v, q1, q2, q3, q4⟩ := r.slot j d' ej
      refine ⟨v, q1, fun zj => ?_, fun z1 z2 => ?_, q4⟩
      · obtain ⟨b, eb, cb⟩ := q2 zj
        have ne : b ≠ a := fun w => z (r.inj j zj i hi a (by rw [q1, eb, w]) e)
        exact ⟨b, eb, cb.mono (Le.refl _) fun u q => by rw [upd_ne ne]; exact q⟩
      · rcases q3 z1 z2 with q | ⟨b, eb, ob, nb, cb⟩
        · exact .inl (by rw [hh]; exact q)
        · have ne : b ≠ a := fun w => nb.1 i hi (by rw [w]; exact e)
          exact .inr ⟨b, eb, ob, nb, by rw [hh]; exact cb.mono (Le.refl _) fun u q => by rw [upd_ne ne]; exact q⟩
  · have ne : b ≠ a := fun w => nb i hi (by rw [w]; exact e)
    rw [upd_ne ne]; exact eb
theorem ixn_seq {n : Nat} {i : Int} {k : Nat} (h : ixn n i = some k) : seqIndex? i n = some k := by
  have h' : ixN n i = some k := h
  exact (ixN_seq h').1
theorem Reps.dropLast : ∀ {xs : List D} {vs : List V}, Reps Z H xs vs → Reps Z H xs.dropLast vs.dropLast
  | _, _, .nil => .nil
  | _, _, .cons a .nil => .nil
  | _, _, .cons a (.cons b r) => .cons a (Reps.dropLast (.cons b r))
/-- the readings of the methods -/
def rMm (m : Mm) : V → List V → Hp → VK → Prop := match m with
  | .append => rAppend
  | .pop0 => rPop
  | .pop1 => rPopAt
theorem mm_ok {m : Mm} {i : Nat} {a : Addr} {xs ds : List D} {y d' : D} {vs ws : List V} {Q : VK} (r : RelS Z c O σd σ H) (hi : i ∈ c.own) (e : σ[i]? = some (some (.ref a))) (hv : H a = some (.lst vs)) (rs : Reps Z (hide H O) xs vs) (ra : Reps Z (hide H O) ds ws)
    (em : mmD m (.lst xs) ds = some (y, d')) (g : Go Z c W (.ok (y, σd.set i (some d'))) O σ H (fun d _ H' => ∀ v, Rep Z (hide H' O) d v → Q v H')) : rMm m (.ref a) ws H Q := by
  have oa : O a := r.own i hi a e
  have fin : ∀ {zs : List V} {d : D} {v : V}, d' = d → Cont Z (upd H a (.lst zs)) (hide H O) d a → Rep Z (hide H O) y v → Q v (upd H a (.lst zs)) := fun {zs d v} ed ct rv => by
    obtain ⟨r2, k2⟩ := r.setOwn (d := d') hi e hv (.inl ⟨_, rfl⟩) (.inl ⟨zs, rfl⟩) (by rw [ed]; exact ct)
    exact g.ok r2 k2 v (by rw [hide_upd oa]; exact rv)
  unfold mmD at em
  split at em
  · rename_i xs' y' h1 
    cases h1
    cases ra with
    | cons hy hn =>
      cases hn
      split at em
      · rename_i hl
        cases em
        exact ⟨a, vs, _, rfl, rfl, hv, by rw [← rs.length]; exact hl, fin rfl ⟨_, upd_same, rs.append (.cons hy .nil)⟩ .non⟩
      · cases em
  · rename_i xs' h1
    cases h1
    cases ra
    obtain ⟨w, e1, e2⟩ := Option.map_eq_some_iff.mp em
    cases e2
    obtain ⟨v, h1, h2⟩ := rs.get e1
    exact ⟨a, vs, v, rfl, rfl, hv, by rw [← rs.length]; exact h1, fin rfl ⟨_, upd_same, rs.dropLast⟩ h2⟩
  · rename_i xs' j h1
    cases h1
    cases ra with
    | cons hy hn =>
      cases hn
      cases hy
      split at em
      · rename_i hl
        obtain ⟨k, e1, e2⟩ := Option.bind_eq_some_iff.mp em
        obtain ⟨w, e3, e4⟩ := Option.map_eq_some_iff.mp e2
        cases e4
        obtain ⟨v, h1, h2⟩ := rs.get e3
        exact ⟨a, vs, _, k, v, rfl, rfl, hv, hl.1, hl.2, by rw [← rs.length]; exact ixn_seq e1, h1, fin rfl ⟨_, upd_same, rs.erase k⟩ h2⟩
      · cases em
  · cases em
theorem tyV_lst {a : Addr} {vs : List V} (h : H a = some (.lst vs)) : tyV X.K "list" (.ref a) H := .inl ⟨rfl, vs, SqL.of h⟩
/-- the start of a method: the list that the slot holds -/
theorem mm_start {m : Mm} {i : Nat} {ks : Es} {l : Lv} {Q : VK} (hr : RelS Z c O σd σ H) (hi : i ∈ c.own) (hg : Go Z c W (ev (.mm m i ks) l σd) O σ H (fun d _ H' => ∀ v, Rep Z (hide H' O) d v → Q v H')) :
    ∃ a vs, σ[i]? = some (some (.ref a)) ∧ H a = some (.lst vs) ∧ Go Z c W ((evs ks l σd).bind fun q => (getS q.2 i).bind fun a => (R.ofO (mmD m a q.1)).bind fun r => .ok (r.1, q.2.set i (some r.2))) O σ H (fun d _ H' => ∀ v, Rep Z (hide H' O) d v → Q v H') := by
  unfold ev at hg
  obtain ⟨d, ed, hg⟩ := Go.get hg
  obtain ⟨hl, hg⟩ := Go.iff hg
  cases d with
  | lst xs =>
    obtain ⟨v, e1, q2, _⟩ := hr.slot i _ ed
    obtain ⟨a, ea, vs, h1, _⟩ := q2 hi
    exact ⟨a, vs, by rw [e1, ea], h1, hg⟩
  | _ => simp [isLstD] at hl
theorem mm_end {m : Mm} {i : Nat} {a : Addr} {ds : List D} {ws : List V} {Q : VK} (hr : RelS Z c O σd σ H) (hi : i ∈ c.own) (e : σ[i]? = some (some (.ref a))) (ra : Reps Z (hide H O) ds ws)
    (g : Go Z c W ((getS σd i).bind fun a => (R.ofO (mmD m a ds)).bind fun r => .ok (r.1, σd.set i (some r.2))) O σ H (fun d _ H' => ∀ v, Rep Z (hide H' O) d v → Q v H')) : rMm m (.ref a) ws H Q := by
  obtain ⟨d, ed, g⟩ := Go.get g
  have g : Go Z c W ((R.ofO (mmD m d ds)).bind fun r => .ok (r.1, σd.set i (some r.2))) O σ H (fun d _ H' => ∀ v, Rep Z (hide H' O) d v → Q v H') := g
  obtain ⟨⟨y, d'⟩, em, g5⟩ := g.opt
  clear g
  obtain ⟨v, e1, q2, _⟩ := hr.slot i _ ed
  obtain ⟨b, eb, ct⟩ := q2 hi
  have : a = b := by rw [e1, eb] at e; simpa using e.symm
  subst this
  have em : mmD m d ds = some (y, d') := em
  cases d with
  | lst xs =>
    obtain ⟨vs, hv, rs⟩ := ct
    have g : Go Z c W (.ok (y, σd.set i (some d'))) O σ H (fun d _ H' => ∀ v, Rep Z (hide H' O) d v → Q v H') := g5
    exact mm_ok hr hi e hv rs ra em g
  | _ => cases m <;> simp [mmD] at em
theorem pe_of_mm {m : Mm} {i : Nat} {o : Expr} {e : Expr} {es : List Expr} {ks : Es} {l : Lv} (hi : i ∈ c.own) (ho : PE X o (tVar i)) (ha : PA X es (TAe Z c W (evs ks l))) (hp : ∀ ta t, PE X o ta → PA X es t → PE X e (tBM X.K "list" (rMm m) ta t)) : PE X e (TEe Z c W (tP Z) (ev (.mm m i ks) l)) :=
  (hp _ _ ho ha).weak fun σ H Q ⟨O, σd, hr, hg⟩ => by
    obtain ⟨a, vs, e1, h1, hg⟩ := mm_start hr hi hg
    refine ⟨_, e1, tyV_lst h1, O, σd, hr, (Go.bind (r := evs ks l σd) hg).imp fun ds σ1 H1 _ r1 k1 g ws rs => mm_end r1 hi e1 rs g⟩
theorem pe_of_mm0 {m : Mm} {i : Nat} {o : Expr} {e : Expr} {l : Lv} (hi : i ∈ c.own) (ho : PE X o (tVar i)) (hp : ∀ ta, PE X o ta → PE X e (tBM0 X.K "list" (rMm m) ta)) : PE X e (TEe Z c W (tP Z) (ev (.mm m i .nil) l)) :=
  (hp _ ho).weak fun σ H Q ⟨O, σd, hr, hg⟩ => by
    obtain ⟨a, vs, e1, h1, hg⟩ := mm_start hr hi hg
    exact ⟨_, e1, tyV_lst h1, mm_end hr hi e1 .nil hg⟩
theorem pe_append {x : Str} {np apos cpos : Pos} {a : Expr} {i : Nat} {k : E} {l : Lv} (hi : i ∈ c.own) (ho : PE X (.Name x np) (tVar i)) (ha : PE X a (TEe Z c W (tP Z) (ev k l))) (hs : notStar a = true) (hl : (apos.endLine == cpos.line) = true) :
    PE X (.Call (.Attribute (.Name x np) "append" apos) [a] [] cpos) (TEe Z c W (tP Z) (ev (.mm .append i (.cons k .nil)) l)) :=
  pe_of_mm hi ho (s_cons ha s_nil (star_cons hs)) fun ta t h1 h2 => pe_bm PySem.F.plainAttrs_list PySem.F.slot_list_append (by rfl) mt_append h1 h2 rfl (by rw [star_cons hs]; rfl) hl (star_cons hs)
theorem pe_pop1 {x : Str} {np apos cpos : Pos} {a : Expr} {i : Nat} {k : E} {l : Lv} (hi : i ∈ c.own) (ho : PE X (.Name x np) (tVar i)) (ha : PE X a (TEe Z c W (tP Z) (ev k l))) (hs : notStar a = true) (hl : (apos.endLine == cpos.line) = true) :
    PE X (.Call (.Attribute (.Name x np) "pop" apos) [a] [] cpos) (TEe Z c W (tP Z) (ev (.mm .pop1 i (.cons k .nil)) l)) :=
  pe_of_mm hi ho (s_cons ha s_nil (star_cons hs)) fun ta t h1 h2 => pe_bm PySem.F.plainAttrs_list PySem.F.slot_list_pop (by rfl) mt_popAt h1 h2 rfl (by rw [star_cons hs]; rfl) hl (star_cons hs)
theorem pe_pop0 {x : Str} {np apos cpos : Pos} {i : Nat} {l : Lv} (hi : i ∈ c.own) (ho : PE X (.Name x np) (tVar i)) (hl : (apos.endLine == cpos.line) = true) :
    PE X (.Call (.Attribute (.Name x np) "pop" apos) [] [] cpos) (TEe Z c W (tP Z) (ev (.mm .pop0 i .nil) l)) :=
  pe_of_mm0 hi ho fun ta h1 => pe_bm0 PySem.F.plainAttrs_list PySem.F.slot_list_pop (by rfl) mt_pop h1 rfl hl
theorem pe_of_dict {l : Lv} {pos : Pos} : PE X (.Dict [] [] pos) (TFe Z c W (ev (.dic .nil .nil) l)) :=
  pe_dnewK.weak fun σ H Q ⟨O, σd, hr, hg⟩ => fun p hp => by
    have hg : Go Z c W (.ok (.dic [], σd)) O σ H (KF Z c O σ H Q) := hg
    have np : ¬ O p := fun h => by
      obtain ⟨u, e, _⟩ := hr.dom p h
      rw [hp] at e; cases e
    have lu := le_upd (o := .dK []) hp
    exact hg.ok (hr.grow lu) (KeepE.of_le lu) _ (fun _ => ⟨p, rfl, fre_none hp, ⟨[], upd_same, .nil⟩, hr.locked hp _ nt_dK⟩) (.dic (hide_some.mpr ⟨⟨np, nt_dK⟩, upd_same⟩) .nil)
end
end BF

/-! Snd11 -/
set_option Elab.async false
set_option linter.all false
set_option maxRecDepth 100000
set_option maxHeartbeats 2000000
namespace BF
open PySem L2

section
variable {Z : Wd} {c : Pl} {W : WX} {O : Addr → Prop} {σ : L2.St} {σd : Sd} {H H' : Hp} {X : Cx}
/-! ### targets -/
/-- a slot that may be stored plainly -/
def FreeS (c : Pl) (i : Nat) : Prop := i ∉ c.own ∧ i ∉ c.bor ∧ ∀ v, c.hold ≠ some (i, v)
theorem notOwn_set {i : Nat} {v : Option V} (hi : i ∉ c.own) {a : Addr} : NotOwn c (σ.set i v) a ↔ NotOwn c σ a := by
  constructor
  · intro h j hj e
    have ne : i ≠ j := fun z => hi (z ▸ hj)
    exact h j hj (by rw [List.getElem?_set_ne ne]; exact e)
  · intro h j hj e
    have ne : i ≠ j := fun z => hi (z ▸ hj)
    rw [List.getElem?_set_ne ne] at e
    exact h j hj e
theorem set_some {α : Type} {l : List (Option α)} {i j : Nat} {x : Option α} {y : α} (h : (l.set i x)[j]? = some (some y)) : (j = i ∧ x = some y ∧ ∃ o, l[i]? = some o) ∨ (j ≠ i ∧ l[j]? = some (some y)) := by
  by_cases z : j = i
  · subst z
    rw [List.getElem?_set_self'] at h
    cases hl : l[j]? with
    | none => rw [hl] at h; simp at h
    | some o => rw [hl] at h; exact .inl ⟨rfl, by simpa using h, o, rfl⟩
  · rw [List.getElem?_set_ne (Ne.symm z)] at h
    exact .inr ⟨z, h⟩
theorem set_at {α : Type} {l m : List (Option α)} {β : Type} {k : List (Option β)} {i : Nat} (hl : l.length = k.length) {o : Option α} (h : l[i]? = some o) (x : Option β) : (k.set i x)[i]? = some x := by
  have hi : i < k.length := by rw [← hl]; exact (List.getElem?_eq_some_iff.mp h).1
  rw [List.getElem?_set_self hi]
/-- a plain slot is stored -/
theorem RelS.setP (r : RelS Z c O σd σ H) {i : Nat} (f : FreeS c i) {d : D} {v : V} (rv : Rep Z (hide H O) d v) : RelS Z c O (σd.set i (some d)) (σ.set i (some v)) H := by
  obtain ⟨f1, f2, f3⟩ := f
  refine ⟨by simp [r.len], r.dom, r.tab, fun j hj a e => ?_, fun j hj k hk a e e' => ?_, fun j d' e => ?_, fun j w hw => ?_⟩
  · have ne : i ≠ j := fun z => f1 (z ▸ hj)
    rw [List.getElem?_set_ne ne] at e
    exact r.own j hj a e
  · have ne : i ≠ j := fun z => f1 (z ▸ hj)
    have ne' : i ≠ k := fun z => f1 (z ▸ hk)
    rw [List.getElem?_set_ne ne] at e
    rw [List.getElem?_set_ne ne'] at e'
    exact r.inj j hj k hk a e e'
  · rcases set_some e with ⟨rfl, e1, o, eo⟩ | ⟨ne, e1⟩
    · cases e1
      refine ⟨v, set_at (m := []) r.len eo _, fun z => absurd z f1, fun _ z => absurd z f2, fun _ _ => rv⟩
    · obtain ⟨w, h1, h2, h3, h4⟩ := r.slot j d' e1
      refine ⟨w, by rw [List.getElem?_set_ne (Ne.symm ne)]; exact h1, h2, fun z1 z2 => ?_, h4⟩
      rcases h3 z1 z2 with q | ⟨a, ea, oa, na, ct⟩
      · exact .inl q
      · exact .inr ⟨a, ea, oa, ⟨(notOwn_set f1).mpr na.1, na.2⟩, ct⟩
  · have ne : i ≠ j := fun z => f3 w (by rw [hw, z])
    rw [List.getElem?_set_ne ne]
    exact r.hold j w hw
/-- a plain slot is forgotten -/
theorem RelS.setN (r : RelS Z c O σd σ H) {i : Nat} (f : FreeS c i) : RelS Z c O (σd.set i none) (σ.set i none) H := by
  obtain ⟨f1, f2, f3⟩ := f
  refine ⟨by simp [r.len], r.dom, r.tab, fun j hj a e => ?_, fun j hj k hk a e e' => ?_, fun j d' e => ?_, fun j w hw => ?_⟩
  · have ne : i ≠ j := fun z => f1 (z ▸ hj)
    rw [List.getElem?_set_ne ne] at e
    exact r.own j hj a e
  · have ne : i ≠ j := fun z => f1 (z ▸ hj)
    have ne' : i ≠ k := fun z => f1 (z ▸ hk)
    rw [List.getElem?_set_ne ne] at e
    rw [List.getElem?_set_ne ne'] at e'
    exact r.inj j hj k hk a e e'
  · rcases set_some e with ⟨rfl, e1, o, eo⟩ | ⟨ne, e1⟩
    · cases e1
    · obtain ⟨w, h1, h2, h3, h4⟩ := r.slot j d' e1
      refine ⟨w, by rw [List.getElem?_set_ne (Ne.symm ne)]; exact h1, h2, fun z1 z2 => ?_, h4⟩
      rcases h3 z1 z2 with q | ⟨a, ea, oa, na, ct⟩
      · exact .inl q
      · exact .inr ⟨a, ea, oa, ⟨(notOwn_set f1).mpr na.1, na.2⟩, ct⟩
  · have ne : i ≠ j := fun z => f3 w (by rw [hw, z])
    rw [List.getElem?_set_ne ne]
    exact r.hold j w hw
/-- all but the slots vs are as they were -/
def SameS (vs : List Nat) (σ σ' : L2.St) : Prop := σ'.length = σ.length ∧ ∀ j, j ∉ vs → σ'[j]? = σ[j]?
theorem SameS.refl {vs : List Nat} : SameS vs σ σ := ⟨rfl, fun _ _ => rfl⟩
theorem SameS.trans {vs : List Nat} {a b d : L2.St} (h : SameS vs a b) (k : SameS vs b d) : SameS vs a d := ⟨k.1.trans h.1, fun j hj => (k.2 j hj).trans (h.2 j hj)⟩
theorem SameS.mono {vs ws : List Nat} {a b : L2.St} (h : SameS vs a b) (i : ∀ x ∈ vs, x ∈ ws) : SameS ws a b := ⟨h.1, fun j hj => h.2 j fun z => hj (i j z)⟩
theorem SameS.set {i : Nat} {v : Option V} {vs : List Nat} (h : i ∈ vs) : SameS vs σ (σ.set i v) := ⟨by simp, fun j hj => List.getElem?_set_ne fun (z : i = j) => hj (z ▸ h)⟩
/-- what a store into t must lead to -/
def TGo (Z : Wd) (c : Pl) (t : T) (O : Addr → Prop) (σ : L2.St) (σd : Sd) (H : Hp) (d : D) (Q : L2.St → Hp → Prop) : Prop :=
  match asg t d σd with
  | .ok σd' => ∀ σ', RelS Z c O σd' σ' H → SameS (slotsT t) σ σ' → Q σ' H
  | _ => False
def TGos (Z : Wd) (c : Pl) (t : List T) (O : Addr → Prop) (σ : L2.St) (σd : Sd) (H : Hp) (d : List D) (Q : L2.St → Hp → Prop) : Prop :=
  match asgs t d σd with
  | .ok σd' => ∀ σ', RelS Z c O σd' σ' H → SameS (slotsTs t) σ σ' → Q σ' H
  | _ => False
def TGr (Z : Wd) (c : Pl) (t : T) : TG := fun v σ H Q => ∃ O σd d, RelS Z c O σd σ H ∧ Rep Z (hide H O) d v ∧ TGo Z c t O σ σd H d Q
def TGrs (Z : Wd) (c : Pl) (t : List T) : TGs := fun vs σ H Q => ∃ O σd ds, RelS Z c O σd σ H ∧ Reps Z (hide H O) ds vs ∧ TGos Z c t O σ σd H ds Q
theorem _root_.L2.PG.weak {e : Expr} {t t' : TG} (h : PG X e t) (i : ∀ v σ H Q, t' v σ H Q → t v σ H Q) : PG X e t' := ⟨fun pins s σ H v u Q I r q => h.run pins s σ H v u Q I r (i v σ H Q q)⟩
theorem _root_.L2.PGs.weak {e : List Expr} {t t' : TGs} (h : PGs X e t) (i : ∀ v σ H Q, t' v σ H Q → t v σ H Q) : PGs X e t' := ⟨fun pins s σ H v u Q I r q => h.run pins s σ H v u Q I r (i v σ H Q q)⟩
theorem _root_.L2.PG.or {e : Expr} {t t' : TG} (h : PG X e t) (h' : PG X e t') : PG X e (fun v σ H Q => t v σ H Q ∨ t' v σ H Q) :=
  ⟨fun pins s σ H v u Q I r q => q.elim (h.run pins s σ H v u Q I r) (h'.run pins s σ H v u Q I r)⟩
theorem tg_name {i : Nat} {x : Str} {pos : Pos} (f : FreeS c i) (hN : X.N.Nodup) (hi : X.N[i]? = some x) (hx : Loc X.env.scope x) (hf : X.fn x = true ∨ X.env.scope.names.lookup x = some .local) : PG X (.Name x pos) (TGr Z c (.var i)) :=
  (pg_name hN hi hx hf).weak fun v σ H Q ⟨O, σd, d, r, rv, g⟩ => by
    unfold TGo asg at g
    exact g _ (r.setP f rv) (SameS.set (by simp [slotsT]))
theorem tg_nil : PGs X [] (TGrs Z c []) := pgs_nil.weak fun vs σ H Q ⟨O, σd, ds, r, rs, g⟩ => by
  unfold TGos at g
  cases rs with
  | nil => simp only [asgs] at g; exact ⟨rfl, g σ r SameS.refl⟩
  | cons _ _ => simp [asgs] at g
theorem tg_cons {e : Expr} {es : List Expr} {t : T} {ts : List T} (h1 : PG X e (TGr Z c t)) (h2 : PGs X es (TGrs Z c ts)) (hs : (assignEach (e :: es) X.env).map (·.2) = assign e X.env :: (assignEach es X.env).map (·.2)) : PGs X (e :: es) (TGrs Z c (t :: ts)) :=
  (pgs_cons h1 h2 hs).weak fun vs σ H Q ⟨O, σd, ds, r, rs, g⟩ => by
    unfold TGos at g
    cases rs with
    | nil => simp [asgs] at g
    | @cons d v ds vs rv rs =>
      refine ⟨v, vs, rfl, O, σd, d, r, rv, ?_⟩
      simp only [asgs] at g
      unfold TGo
      cases ha : asg t d σd with
      | ok σ1 =>
        rw [ha] at g
        intro σ' r' sm
        refine ⟨O, σ1, ds, r', rs, ?_⟩
        unfold TGos
        have g : (match asgs ts ds σ1 with | .ok σd' => ∀ σ', RelS Z c O σd' σ' H → SameS (slotsTs (t :: ts)) σ σ' → Q σ' H | _ => False) := g
        cases hb : asgs ts ds σ1 with
        | ok σ2 =>
          rw [hb] at g
          exact fun σ3 r3 sm3 => g σ3 r3 ((sm.mono fun x hx => by simp only [slotsTs, List.mem_append]; exact .inl hx).trans (sm3.mono fun x hx => by simp only [slotsTs, List.mem_append]; exact .inr hx))
        | exc k => rw [hb] at g; exact g
        | bad => rw [hb] at g; exact g
      | exc k => rw [ha] at g; exact g
      | bad => rw [ha] at g; exact g
/-- targets in a row, any of a tuple's or a list's items -/
theorem tg_tup {es : List Expr} {k : Nat} {ts : List T} {pos : Pos} (hK : X.K = Z.K) (hc : X.calm = true) (h : PGs X es (TGrs Z c ts)) (hl : ts.length = es.length) (hn : (assignEach es X.env).length = es.length) (hst : (assignEach es X.env).findIdx? (·.1) = none) : PG X (.Tuple es k pos) (TGr Z c (.tup ts)) :=
  ((pg_tup hc h hn hst).or (pg_lst hc h hn hst)).weak fun v σ H Q ⟨O, σd, d, r, rv, g⟩ => by
    unfold TGo at g
    simp only [asg] at g
    cases d <;> simp only [itemsOf] at g <;> first | exact g.elim | skip
    all_goals
      rename_i xs
      split at g <;> first | exact g.elim | skip
      rename_i σd' hg
      split at hg <;> first | (cases hg; done) | skip
      rename_i hl'
      have go : ∀ vs, Reps Z (hide H O) xs vs → TGrs Z c ts vs σ H Q := fun vs rs => ⟨O, σd, xs, r, rs, by
        unfold TGos
        rw [hg]
        exact fun σ' r' sm => g σ' r' (by simpa [slotsT] using sm)⟩
    · cases rv with
      | tup s rs => exact .inl ⟨_, _, rfl, by rw [hK]; exact (hide_le H O).sqT s, by rw [← rs.length, hl', hl], go _ rs⟩
    · cases rv with
      | lst s rs => exact .inr ⟨_, _, rfl, SqL.of (hide_le H O _ _ s), by rw [← rs.length, hl', hl], go _ rs⟩
    · cases rv with
      | frz s rs => exact .inr ⟨_, _, rfl, by rw [hK]; exact (hide_le H O).sqL s, by rw [← rs.length, hl', hl], go _ rs⟩
end
end BF

/-! EnumT -/
set_option Elab.async false
set_option linter.all false
set_option maxRecDepth 100000
set_option maxHeartbeats 2000000
/-! enumerate(t), t a tuple -/
namespace BF
open PySem PySem.Spec PyProof.Rows L2

theorem draws_tuple {prog : Program} {w : World} {A : Around} (hh : A.handled = none) (it t : Addr) (hne : t ≠ it) (items : Array Value) :
    Draws prog w A it [it, t] items.size (fun i v => items[i]? = some v) (fun i h => h.IsTupleIter it t i ∧ h.IsTuple t items) where
  live := fun _ _ st => let ⟨o, ho, _⟩ := st.1; ⟨o, ho⟩
  frame := fun _ _ _ st hk => ⟨st.1.at fun o e => hk it (by simp) o e, st.2.at fun o e => hk t (by simp) o e⟩
  item := fun i s Q E hi st hQ => by
    refine RZ.nextOf_tuple_item st.1 st.2 (x := items[i]) (by simp [hi]) fun h' hit' hs' => ?_
    exact hQ _ h' s.toks (by simp [hi]) ⟨hit', st.2.at fun o e => hs'.extBut _ o hne e⟩ hs'
  done := fun s Q E st hE => RZ.nextOf_tuple_end hh st.1 st.2 (by simp) hE
set_option maxHeartbeats 4000000 in
theorem meets_enum1 {v : Value} {o : Obj} {P : Heap → Prop} (B : Begins v o P) :
    Meets (Builtin.«enumerate.__new__» ⟨[.type "enumerate", v], []⟩) (fun _ R s => P s.heap ∧
      R (.ok (.ret (.ref (s.heap.push o).objs.size))) { s with heap := (s.heap.push o).push { cls := .type "enumerate", data := .fields #[.none, .bool false, .ref s.heap.objs.size, rawInt 0, .none, .none] } }) :=
  .of_wp fun prog w A R s h => by
    obtain ⟨hp, g, d, tk, os⟩ := s
    obtain ⟨h1, h⟩ := h
    have hsub := sub_enumerate
    have q1 : ∀ {A' : Around} {E : Value → Shared → Prop} {Q : Value → Shared → Prop}, Q (.ref hp.objs.size) ⟨hp.push o, g, d, tk, os⟩ → wpAny (model prog w) A' (pyIter v) Q E ⟨hp, g, d, tk, os⟩ :=
      fun q => B.iter prog w _ _ ⟨hp, g, d, tk, os⟩ _ h1 q
    wp_walk using q1
    refine wpAny_stack_any fun st => wpAny_pure ?_
    split
    · rename_i c _ _ _ _ _
      cases (c == Value.type "enumerate") <;> (wp_walk using q1; exact ⟨_, rfl, h⟩)
    · wp_walk using q1
      exact ⟨_, rfl, h⟩
section
variable {prog : Program} {w : World} {A : Around} {E : Value → Shared → Prop} {s : Shared}
theorem call_enum1 {v : Value} {o : Obj} {P : Heap → Prop} {Q : Value → Shared → Prop} (B : Begins v o P) (h1 : P s.heap)
    (h : ∀ h', IsEnum h' (s.heap.objs.size + 1) s.heap.objs.size 0 .none → h'.get? s.heap.objs.size = some o → (∀ b u, s.heap.get? b = some u → h'.get? b = some u) → Q (.ref (s.heap.objs.size + 1)) { s with heap := h' }) :
    wpAny (model prog w) A (call (.type "enumerate") [v]) Q E s := by
  have hz : (s.heap.push o).objs.size = s.heap.objs.size + 1 := Heap.size_push ..
  refine callType_new F.called_enumerate (by decide) (F.typeCall_enumerate_1 _) (F.newCall_enumerate_1 _) (fun obj => F.args_object_init_2 obj _) F.entry_enumerate_new (meets_enum1 B) ⟨h1, ?_⟩
  show _ ∧ _
  rw [hz]
  have he : IsEnum ((s.heap.push o).push { cls := .type "enumerate", data := .fields #[.none, .bool false, .ref s.heap.objs.size, rawInt 0, .none, .none] }) (s.heap.objs.size + 1) s.heap.objs.size 0 .none := by
    have := Heap.get?_push_size (s.heap.push o) (o := { cls := .type "enumerate", data := .fields #[.none, .bool false, .ref s.heap.objs.size, rawInt 0, .none, .none] }) rfl
    rw [hz] at this
    exact this
  exact ⟨⟨_, he, rfl⟩, h _ he (Heap.get?_push_of_some _ (Heap.get?_push_size _ B.free)) fun b u x => Heap.get?_push_of_some _ (Heap.get?_push_of_some _ x)⟩
end
theorem enum_endT {prog : Program} {w : World} {A : Around} {E : Value → Shared → Prop} {s : Shared} {e it t : Addr} {j : Nat} {items : Array Value} {i : Int} {old : Value} {Q : Option Value → Shared → Prop} (hh : A.handled = none)
    (he : IsEnum s.heap e it i old) (hit : s.heap.IsTupleIter it t j) (ht : s.heap.IsTuple t items) (hx : items[j]? = none) (hQ : ∀ h', Heap.ExtBut it s.heap h' → Q none { s with heap := h' }) : wpAny (model prog w) A (pyNext (.ref e)) Q E s := by
  have hT : s.TypeIs (.ref e) "enumerate" := ⟨_, he, rfl⟩
  unfold pyNext
  refine wpAny_bind (wpAny_attempt (wpAny_callSpecial?_slot (name := Str.ofString "__next__") hT F.slot_enumerate_next
    (wpAny_call_entry F.slot_enumerate_next hT F.entry_enumerate_next ?_ (F.args_enumerate_next_1 _))))
  show wpAny _ _ (field (.ref e) 2 >>= _) _ _ _
  refine wpAny_bind (wpAny_field he rfl (x := .ref it) rfl ?_)
  refine wpAny_bind (RZ.nextOf_tuple_end (A := A.in1) hh hit ht hx fun h' x he' hx' => ?_)
  obtain ⟨o, ho, hc⟩ := hx'
  refine wpAny_bind (wpAny_isInstance (T := "StopIteration") (b := true) ⟨o, ho, hc⟩ isSubtype_stop ?_)
  exact wpAny_pure (hQ _ he')
/-- the tuple at a as it stands, each item in a new pair -/
def IteT (K : PySem.W.Frag) (a : Addr) : It :=
  ⟨fun i H => ∃ (xs : List V) (x : V), SqT K H a xs ∧ xs[i]? = some x, fun i H v H' => ∃ T x, v = .ref T ∧ H T = none ∧ H' = upd H T (.tup [.int (i : Nat), x]) ∧ ∀ xs, SqT K H a xs → xs[i]? = some x, fun i H => ∃ xs : List V, SqT K H a xs ∧ xs.length ≤ i⟩
theorem turn_enumT {P : Program} {w : World} {K : PySem.W.Frag} {elts : List Expr} {kk : Nat} {tpos : Pos} (a e it : Addr) (hat : a ≠ it) (hae : a ≠ e) :
    Turn P w K (.Tuple elts kk tpos) (IteT K a) [e, it] e (fun i h => (∃ old, IsEnum h e it ((i : Nat) : Int) old) ∧ h.IsTupleIter it a i ∧ e ≠ it) where
  mem := by simp
  obj := fun i h st b hb => by
    obtain ⟨⟨old, he⟩, ⟨o, ho, hc, hd⟩, _⟩ := st
    have e' : b = e ∨ b = it := by simpa using hb
    rcases e' with z | z
    · rw [z]; exact ⟨_, he, fun v q => nomatch q⟩
    · rw [z]; exact ⟨o, ho, fun v q => by rw [hd] at q; cases q⟩
  keep := fun i h h' st k => let ⟨⟨old, he⟩, hi, hne⟩ := st; ⟨⟨old, k e (by simp) _ he⟩, hi.at fun o q => k it (by simp) o q, hne⟩
  item := by
    intro X hP hw hK hc i pins s σ H E I hf st hg
    subst hP hw hK
    obtain ⟨⟨old, he⟩, hit, hne⟩ := st
    obtain ⟨xs, x, hq, hx⟩ := hg
    obtain ⟨its, rv, p, hz⟩ := I.tuple hq
    obtain ⟨u, hu, ru⟩ := rv.get hx
    have hel : e < s.heap.objs.size := Heap.lt_size he
    have hil : it < s.heap.objs.size := by obtain ⟨_, q, _⟩ := hit; exact Heap.lt_size q
    have hlt : i < its.toArray.size := by rw [List.size_toArray]; exact (List.getElem?_eq_some_iff.mp hu).1
    refine wpAny_pyNext_enum_itemD (draws_tuple (A := X.A.in1) (show X.A.in1.handled = none from I.ok.hd hc) it a hat its.toArray) he ⟨hit, p⟩ hlt hne (by simp [hne, Ne.symm hae]) fun v h' tk hv ho hst hT hsz hk => ?_
    obtain ⟨hit', _⟩ := hst
    have ev : v = u := by
      have hv' : its.toArray[i]? = some v := hv
      have : its[i]? = some v := by simpa using hv'
      rw [hu] at this
      exact (Option.some.inj this).symm
    subst ev
    refine ⟨_, rfl, wpAny_letOwnedTupleGo_enum (s := { s with heap := h', toks := tk + 1 }) ho fun h'' he' sb => ?_⟩
    have hT2 : h''.get? s.heap.objs.size = some { cls := .type "tuple", data := .seq #[.int i tk, v] } := (sb.2 _ (Nat.ne_of_gt hel)).trans hT
    have new : ObjOk X.prog X.w (upd H s.heap.objs.size (.tup [.int (i : Nat), x])) h'' s.heap.objs.size (.tup [.int (i : Nat), x]) :=
      ⟨by show 2 ≤ sizeLine; decide, [.int i tk, v], .cons ⟨_, rfl⟩ (.cons ru .nil), ⟨_, hT2, rfl, _, rfl⟩⟩
    have I1 : Inv X pins σ (upd H s.heap.objs.size (.tup [.int (i : Nat), x])) { s with heap := h'', toks := tk + 1 } :=
      I.turnedNew (ch := [e, it]) (fun b ob hb q => (sb.2 b (fun z => hb (by simp [z]))).trans (hk b ob (fun z => hb (by simp [z])) (fun z => hb (by simp [z])) q)) hf (Nat.le_refl _) new
    refine ⟨.ref s.heap.objs.size, _, I1, rfl, ⟨_, x, rfl, I.hok.fresh (Nat.le_refl _), rfl, fun ys hy => by rw [I.tuple_inj hy hq]; exact hx⟩, ⟨⟨v, ?_⟩, hit'.at fun o q => (sb.2 it (Ne.symm hne)).trans q, hne⟩, fun b hb => ?_⟩
    · have e1 : ((i + 1 : Nat) : Int) = (i : Int) + 1 := by omega
      rw [e1]; exact he'
    · have hb' : b < s.heap.objs.size := by
        have e' : b = e ∨ b = it := by simpa using hb
        rcases e' with z | z
        · rw [z]; exact hel
        · rw [z]; exact hil
      rw [upd_ne (Nat.ne_of_lt hb')]
      exact (hf b hb).1
  done := by
    intro X hP hw hK hc i pins s σ H E I hf st hg
    subst hP hw hK
    obtain ⟨⟨old, he⟩, hit, hne⟩ := st
    obtain ⟨xs, hq, hx⟩ := hg
    obtain ⟨its, rv, p, hz⟩ := I.tuple hq
    obtain ⟨f0, f1, f2, f3, f4, f5⟩ := hf it (by simp)
    have hl := rv.length
    exact enum_endT (I.ok.hd hc) he hit p (by simp; omega) fun h' eb => ⟨rfl, I.turned (t' := s.toks) (fun b o hb q => eb b o hb q) f0 f1 f3 f4 f5⟩
  self := fun A i s Q E st h => let ⟨⟨_, he⟩, _⟩ := st; wpAny_pyIter_enum he h
theorem walk_enumT {K : PySem.W.Frag} {a : Addr} {xs : List V} : Walk (IteT K a) xs.length (fun H => SqT K H a xs) (YPair (fun i => some (.int (i : Nat))) (fun i => xs[i]?)) where
  goes := fun i H hi h => ⟨xs, xs[i], h, by simp⟩
  stops := fun H h => ⟨xs, h, Nat.le_refl _⟩
  yields := fun i H x H' hi h ⟨T, y, e1, e2, e3, e4⟩ => ⟨T, .int (i : Nat), y, e1, e2, e3, rfl, e4 xs h⟩
/-- enumerate of a list or of a tuple -/
def iEnumA (K : PySem.W.Frag) (ta : TA) : TI := fun σ H R => ta σ H fun vs H1 => ∃ a xs, vs = [.ref a] ∧ ((SqL K H1 a xs ∧ R (Ite K a) H1) ∨ (SqT K H1 a xs ∧ R (IteT K a) H1))
theorem pi_enumA {X : Cx} {e : Expr} {ta : TA} {p pos tpos : Pos} {elts : List Expr} {kk : Nat} (hg : Gl X "enumerate") (hm : X.mg "enumerate" = none) (ha : PA X [e] ta) (hs : starEach [e] X.env = [(false, eval e X.env)]) :
    PI X (.Tuple elts kk tpos) (.Call (.Name "enumerate" p) [e] [] pos) (iEnumA X.K ta) := by
  refine ⟨fun pins s σ H R I h => ?_⟩
  refine Call_ (ld_blt I hg hm boot_enumerate (PyProof.Rows.callWith_type1 (thn (ha.run pos pins s σ H _ I h) fun us s1 ⟨vs, H1, I1, r1, q1⟩ => ?_) hs rfl))
  obtain ⟨a, xs, ex, q⟩ := q1
  subst ex
  cases r1 with
  | cons r rr =>
    cases rr
    cases r
    have two : ∀ b ∈ [s1.heap.objs.size + 1, s1.heap.objs.size], s1.heap.objs.size ≤ b := fun b hb => by
      have e' : b = s1.heap.objs.size + 1 ∨ b = s1.heap.objs.size := by simpa using hb
      rcases e' with z | z
      · rw [z]; exact Nat.le_add_right _ _
      · rw [z]; exact Nat.le_refl _
    rcases q with ⟨hq, q⟩ | ⟨hq, q⟩
    · obtain ⟨its, rv, p', hz⟩ := I1.list hq
      refine call_enumerate_list p'.isList fun h' he hit hsz hk => wpAny_pyIter_enum he ?_
      have I2 : Inv X pins σ H1 { s1 with heap := h' } := I1.kept (t' := s1.toks) hk
      exact ⟨s1.heap.objs.size + 1, [s1.heap.objs.size + 1, s1.heap.objs.size], _, _, H1, rfl, I2, turn_enum a (s1.heap.objs.size + 1) s1.heap.objs.size, ⟨⟨.none, he⟩, hit, Nat.succ_ne_self _⟩, fun b hb => I1.fpOk (two b hb) (I1.hok.fresh (two b hb)), q⟩
    · obtain ⟨its, rv, p', hz⟩ := I1.tuple hq
      have hal : a < s1.heap.objs.size := by obtain ⟨_, z, _⟩ := p'; exact Heap.lt_size z
      refine call_enum1 (begins_tuple a its.toArray) p' fun h' he hit hk => wpAny_pyIter_enum he ?_
      have I2 : Inv X pins σ H1 { s1 with heap := h' } := I1.kept (t' := s1.toks) hk
      exact ⟨s1.heap.objs.size + 1, [s1.heap.objs.size + 1, s1.heap.objs.size], _, _, H1, rfl, I2, turn_enumT a (s1.heap.objs.size + 1) s1.heap.objs.size (Nat.ne_of_lt hal) (Nat.ne_of_lt (Nat.lt_succ_of_lt hal)), ⟨⟨.none, he⟩, ⟨_, hit, rfl, rfl⟩, Nat.succ_ne_self _⟩, fun b hb => I1.fpOk (two b hb) (I1.hok.fresh (two b hb)), q⟩
end BF

/-! Snd12 -/
set_option Elab.async false
set_option linter.all false
set_option maxRecDepth 100000
set_option maxHeartbeats 2000000
namespace BF
open PySem L2

/-- J walks over what xs tells, as long as what is seen at (O, H) is seen -/
def Wk (Z : Wd) (O : Addr → Prop) (H : Hp) (xs : List D) (J : It) : Prop :=
  ∃ (G : Hp → Prop) (Y : Nat → Hp → V → Hp → Prop), Walk J xs.length G Y ∧ (∀ O1 H1, Le (hide H O) (hide H1 O1) → G H1) ∧
    ∀ i H1 v H2 O1, i < xs.length → Le (hide H O) (hide H1 O1) → DomO Z O1 H1 → Y i H1 v H2 → Le H1 H2 ∧ ∃ x, xs[i]? = some x ∧ Rep Z (hide H2 O1) x v
def TIe (Z : Wd) (c : Pl) (W : WX) (f : Sd → R (List D × Sd)) : TI := fun σ H R => ∃ O σd, RelS Z c O σd σ H ∧ Go Z c W (f σd) O σ H fun xs _ H' => ∀ J, Wk Z O H' xs J → R J H'
section
variable {Z : Wd} {c : Pl} {W : WX} {O : Addr → Prop} {σ : L2.St} {σd : Sd} {H H' : Hp} {X : Cx} {tg : Expr}
theorem _root_.L2.PI.weak {iter : Expr} {t t' : TI} (h : PI X tg iter t) (i : ∀ σ H R, t' σ H R → t σ H R) : PI X tg iter t' := ⟨fun pins s σ H R I q => h.run pins s σ H R I (i σ H R q)⟩
theorem _root_.L2.PI.none {iter : Expr} {t : TI} (h : ∀ σ H R, ¬ t σ H R) : PI X tg iter t := ⟨fun pins s σ H R I q => absurd q (h σ H R)⟩
/-- a list or a tuple -/
def iSq (K : PySem.W.Frag) (te : TE) : TI := fun σ H R => te σ H fun x H1 => ∃ a, x = .ref a ∧ (((∃ xs, SqL K H1 a xs) ∧ R (Itl K a) H1) ∨ ((∃ xs, SqT K H1 a xs) ∧ R (Itt K a) H1))
theorem pi_sq {l : Expr} {tl : TE} (hl : PE X l tl) : PI X tg l (iSq X.K tl) := by
  refine ⟨fun pins s σ H R I h => ?_⟩
  refine thn (hl.run pins s σ H _ I h) fun v s1 ⟨x, H1, I1, r1, q1⟩ => ?_
  obtain ⟨a, e, q1⟩ := q1
  subst e
  cases r1
  rcases q1 with ⟨⟨xs, hq⟩, q⟩ | ⟨⟨xs, hq⟩, q⟩
  · obtain ⟨its, rv, p, hz⟩ := I1.list hq
    refine wpAny_pyIter_list p.isList ?_
    refine ⟨s1.heap.objs.size, [s1.heap.objs.size], _, _, H1, rfl, I1.kept (t' := s1.toks) fun b o e => Heap.get?_push_of_some _ e, turn_list a _, ⟨_, Heap.get?_push_size _ rfl, rfl, rfl⟩, fun b hb => ?_, q⟩
    have e : b = s1.heap.objs.size := by simpa using hb
    subst e
    exact I1.fpOk (Nat.le_refl _) (I1.hok.fresh (Nat.le_refl _))
  · obtain ⟨its, rv, p, hz⟩ := I1.tuple hq
    refine wpAny_pyIter_tuple (show s1.heap.IsTuple a its.toArray from p) ?_
    refine ⟨s1.heap.objs.size, [s1.heap.objs.size], _, _, H1, rfl, I1.kept (t' := s1.toks) fun b o e => Heap.get?_push_of_some _ e, turn_tuple a _, ⟨_, Heap.get?_push_size _ rfl, rfl, rfl⟩, fun b hb => ?_, q⟩
    have e : b = s1.heap.objs.size := by simpa using hb
    subst e
    exact I1.fpOk (Nat.le_refl _) (I1.hok.fresh (Nat.le_refl _))
/-- what a value's items are to an iterator -/
theorem wk_list {K : PySem.W.Frag} (hK : K = Z.K) {a : Addr} {xs : List D} {vs : List V} (h : SqL K (hide H O) a vs) (rs : Reps Z (hide H O) xs vs) : Wk Z O H xs (Itl K a) := by
  refine ⟨_, _, by rw [rs.length]; exact walk_list, fun O1 H1 l => (hide_le H1 O1).sqL (l.sqL h), fun i H1 v H2 O1 hi l hd y => ?_⟩
  obtain ⟨rfl, hv⟩ := y
  obtain ⟨x, hx, rx⟩ := rs.getV hv
  exact ⟨Le.refl _, x, hx, rx.le l⟩
theorem wk_tup {K : PySem.W.Frag} (hK : K = Z.K) {a : Addr} {xs : List D} {vs : List V} (h : SqT K (hide H O) a vs) (rs : Reps Z (hide H O) xs vs) : Wk Z O H xs (Itt K a) := by
  refine ⟨_, _, by rw [rs.length]; exact walk_tup, fun O1 H1 l => (hide_le H1 O1).sqT (l.sqT h), fun i H1 v H2 O1 hi l hd y => ?_⟩
  obtain ⟨rfl, hv⟩ := y
  obtain ⟨x, hx, rx⟩ := rs.getV hv
  exact ⟨Le.refl _, x, hx, rx.le l⟩
theorem wk_range {lo hi : Int} : Wk Z O H (rangeL lo hi) (Itr lo (hi - lo).toNat) := by
  have e : (rangeL lo hi).length = (hi - lo).toNat := by simp [rangeL]
  refine ⟨_, _, by rw [e]; exact walk_range, fun O1 H1 l => trivial, fun i H1 v H2 O1 h l hd y => ?_⟩
  obtain ⟨rfl, rfl⟩ := y
  rw [e] at h
  exact ⟨Le.refl _, .int (lo + i), by simp [rangeL, h], .int _⟩
theorem pair_new {Y : Nat → Hp → V → Hp → Prop} {i : Nat} {H1 H2 : Hp} {v : V} {O1 : Addr → Prop} {xs ys : Nat → Option V} (hd : DomO Z O1 H1) (y : YPair xs ys i H1 v H2) : Le H1 H2 ∧ ∃ x y, xs i = some x ∧ ys i = some y ∧ ∀ dx dy, Rep Z (hide H1 O1) dx x → Rep Z (hide H1 O1) dy y → Rep Z (hide H2 O1) (.tup [dx, dy]) v := by
  obtain ⟨T, x, y, rfl, hT, rfl, h1, h2⟩ := y
  have l := le_upd (o := .tup [x, y]) hT
  have nT : ¬ O1 T := fun z => by
    obtain ⟨o, e, _⟩ := hd.1 T z
    rw [hT] at e; cases e
  have g : Le (hide H1 O1) (hide (upd H1 T (.tup [x, y])) O1) := hide_mono fun a u e t n => ⟨l a u e, n⟩
  exact ⟨l, x, y, h1, h2, fun dx dy r1 r2 => .tup (.inl (.inl (hide_some.mpr ⟨⟨nT, nt_tup⟩, upd_same⟩))) (.cons (r1.le g) (.cons (r2.le g) .nil))⟩
theorem wk_enum {K : PySem.W.Frag} (hK : K = Z.K) {a : Addr} {xs : List D} {vs : List V} (h : SqL K (hide H O) a vs) (rs : Reps Z (hide H O) xs vs) : Wk Z O H (enumL xs) (Ite K a) := by
  have e : (enumL xs).length = vs.length := by simp [enumL, rs.length]
  refine ⟨_, _, by rw [e]; exact walk_enum, fun O1 H1 l => (hide_le H1 O1).sqL (l.sqL h), fun i H1 v H2 O1 hi l hd y => ?_⟩
  obtain ⟨l2, x, y, h1, h2, k⟩ := pair_new (Y := fun _ _ _ _ => True) hd y
  cases h1
  obtain ⟨d, hx, rx⟩ := rs.getV h2
  refine ⟨l2, .tup [.int i, d], ?_, k _ _ (.int _) (rx.le l)⟩
  have hi' : i < xs.length := by rw [rs.length, ← e]; exact hi
  simp [enumL, hx, hi']
  rw [List.getElem?_eq_getElem hi'] at hx
  simpa using hx
theorem wk_enumT {K : PySem.W.Frag} (hK : K = Z.K) {a : Addr} {xs : List D} {vs : List V} (h : SqT K (hide H O) a vs) (rs : Reps Z (hide H O) xs vs) : Wk Z O H (enumL xs) (IteT K a) := by
  have e : (enumL xs).length = vs.length := by simp [enumL, rs.length]
  refine ⟨_, _, by rw [e]; exact walk_enumT, fun O1 H1 l => (hide_le H1 O1).sqT (l.sqT h), fun i H1 v H2 O1 hi l hd y => ?_⟩
  obtain ⟨l2, x, y, h1, h2, k⟩ := pair_new (Y := fun _ _ _ _ => True) hd y
  cases h1
  obtain ⟨d, hx, rx⟩ := rs.getV h2
  refine ⟨l2, .tup [.int i, d], ?_, k _ _ (.int _) (rx.le l)⟩
  have hi' : i < xs.length := by rw [rs.length, ← e]; exact hi
  simp [enumL, hx, hi']
  rw [List.getElem?_eq_getElem hi'] at hx
  simpa using hx
theorem wk_zip {K : PySem.W.Frag} (hK : K = Z.K) {a b : Addr} {xs ys : List D} {vs ws : List V} (h : SqL K (hide H O) a vs) (rs : Reps Z (hide H O) xs vs) (h' : SqL K (hide H O) b ws) (rs' : Reps Z (hide H O) ys ws) : Wk Z O H (zipL xs ys) (Itz K a b) := by
  have e : (zipL xs ys).length = min vs.length ws.length := by simp [zipL, rs.length, rs'.length]
  refine ⟨_, _, walk_zip (xs := vs) (ys := ws) e, fun O1 H1 l => ⟨(hide_le H1 O1).sqL (l.sqL h), (hide_le H1 O1).sqL (l.sqL h')⟩, fun i H1 v H2 O1 hi l hd y => ?_⟩
  obtain ⟨l2, x, y, h1, h2, k⟩ := pair_new (Y := fun _ _ _ _ => True) hd y
  obtain ⟨d, hx, rx⟩ := rs.getV h1
  obtain ⟨d', hx', rx'⟩ := rs'.getV h2
  refine ⟨l2, .tup [d, d'], ?_, k _ _ (rx.le l) (rx'.le l)⟩
  simp [zipL]
  exact List.getElem?_zip_eq_some.mpr ⟨hx, hx'⟩
theorem walk_zipT {K : PySem.W.Frag} {a b : Addr} {xs ys : List V} {n : Nat} (hn : n = min xs.length ys.length) : Walk (RZ.ItzT K a b) n (fun H => SqT K H a xs ∧ SqT K H b ys) (YPair (fun i => xs[i]?) (fun i => ys[i]?)) where
  goes := fun i H hi ⟨h1, h2⟩ => ⟨xs, ys, xs[i]'(by omega), ys[i]'(by omega), h1, h2, by simp, by simp⟩
  stops := fun H ⟨h1, h2⟩ => ⟨xs, ys, h1, h2, by omega⟩
  yields := fun i H x H' hi ⟨h1, h2⟩ ⟨T, x, y, e1, e2, e3, e4, e5⟩ => ⟨T, x, y, e1, e2, e3, e4 xs h1, e5 ys h2⟩
theorem wk_zipT {K : PySem.W.Frag} (hK : K = Z.K) {a b : Addr} {xs ys : List D} {vs ws : List V} (h : SqT K (hide H O) a vs) (rs : Reps Z (hide H O) xs vs) (h' : SqT K (hide H O) b ws) (rs' : Reps Z (hide H O) ys ws) : Wk Z O H (zipL xs ys) (RZ.ItzT K a b) := by
  have e : (zipL xs ys).length = min vs.length ws.length := by simp [zipL, rs.length, rs'.length]
  refine ⟨_, _, walk_zipT (xs := vs) (ys := ws) e, fun O1 H1 l => ⟨(hide_le H1 O1).sqT (l.sqT h), (hide_le H1 O1).sqT (l.sqT h')⟩, fun i H1 v H2 O1 hi l hd y => ?_⟩
  obtain ⟨l2, x, y, h1, h2, k⟩ := pair_new (Y := fun _ _ _ _ => True) hd y
  obtain ⟨d, hx, rx⟩ := rs.getV h1
  obtain ⟨d', hx', rx'⟩ := rs'.getV h2
  refine ⟨l2, .tup [d, d'], ?_, k _ _ (rx.le l) (rx'.le l)⟩
  simp [zipL]
  exact List.getElem?_zip_eq_some.mpr ⟨hx, hx'⟩
/-! ### the iterables -/
theorem i_val {e : Expr} {k : E} {l : Lv} (hK : X.K = Z.K) (h : PE X e (TEe Z c W (tP Z) (ev k l))) : PI X tg e (TIe Z c W (evi (.val k) l)) :=
  (pi_sq h).weak fun σ H R ⟨O, σd, hr, hg⟩ => ⟨O, σd, hr, (Go.bind (r := ev k l σd) hg).imp fun d σ1 H1 _ r1 k1 g v rv => by
    obtain ⟨xs, ex, g⟩ := Go.opt g
    have fin := g.ok r1 KeepE.refl
    cases d <;> simp only [itemsOf, Option.some.injEq] at ex <;> first | (cases ex; done) | (subst ex)
    · cases rv with
      | tup s rs => exact ⟨_, rfl, .inr ⟨⟨_, by rw [hK]; exact (hide_le _ _).sqT s⟩, fin _ (by rw [hK]; exact wk_tup rfl s rs)⟩⟩
    · cases rv with
      | lst s rs => exact ⟨_, rfl, .inl ⟨⟨_, by rw [hK]; exact (hide_le _ _).sqL (SqL.of s)⟩, fin _ (by rw [hK]; exact wk_list rfl (SqL.of s) rs)⟩⟩
    · cases rv with
      | frz s rs => exact ⟨_, rfl, .inl ⟨⟨_, by rw [hK]; exact (hide_le _ _).sqL s⟩, fin _ (by rw [hK]; exact wk_list rfl s rs)⟩⟩⟩
theorem i_lst {e : Expr} {k : E} {l : Lv} (hK : X.K = Z.K) (h : PE X e (TEe Z c W (tP Z) (ev k l))) : PI X tg e (TIe Z c W (evi (.lst k) l)) :=
  (pi_list h).weak fun σ H R ⟨O, σd, hr, hg⟩ => ⟨O, σd, hr, (Go.bind (r := ev k l σd) hg).imp fun d σ1 H1 _ r1 k1 g v rv => by
    obtain ⟨xs, ex, g⟩ := Go.opt g
    have fin := g.ok r1 KeepE.refl
    cases d <;> simp only [lstsOf, Option.some.injEq] at ex <;> first | (cases ex; done) | (subst ex)
    · cases rv with
      | lst s rs => exact ⟨_, rfl, ⟨_, by rw [hK]; exact (hide_le _ _).sqL (SqL.of s)⟩, fin _ (by rw [hK]; exact wk_list rfl (SqL.of s) rs)⟩
    · cases rv with
      | frz s rs => exact ⟨_, rfl, ⟨_, by rw [hK]; exact (hide_le _ _).sqL s⟩, fin _ (by rw [hK]; exact wk_list rfl s rs)⟩⟩
theorem i_rng1 {a : Expr} {k : E} {l : Lv} {p pos : Pos} (hg : Gl X "range") (hm : X.mg "range" = none) (h : PE X a (TEe Z c W (tP Z) (ev k l))) (hs : notStar a = true) : PI X tg (.Call (.Name "range" p) [a] [] pos) (TIe Z c W (evi (.rng1 k) l)) :=
  (pi_range1 hg hm (pa_cons h pa_nil (star_cons hs)) (star_cons hs)).weak fun σ H R ⟨O, σd, hr, hg⟩ => ⟨O, σd, hr, (Go.bind (r := ev k l σd) hg).imp fun d σ1 H1 _ r1 k1 g v rv => by
    cases d with
    | int j =>
      cases rv
      obtain ⟨hj, g⟩ := Go.iff g
      simp only [rngOk, Bool.and_eq_true, decide_eq_true_eq] at hj
      refine ⟨j, rfl, hj.1, hj.2, g.ok r1 KeepE.refl _ ?_⟩
      have := wk_range (Z := Z) (O := O) (H := H1) (lo := 0) (hi := j)
      rw [Int.sub_zero] at this
      exact this
    | _ => exact g.elim⟩
theorem i_rng2 {a b : Expr} {ka kb : E} {l : Lv} {p pos : Pos} (hg : Gl X "range") (hm : X.mg "range" = none) (h : PE X a (TEe Z c W (tP Z) (ev ka l))) (h' : PE X b (TEe Z c W (tP Z) (ev kb l))) (hs : notStar a = true) (hs' : notStar b = true) :
    PI X tg (.Call (.Name "range" p) [a, b] [] pos) (TIe Z c W (evi (.rng2 ka kb) l)) :=
  (pi_range2 hg hm (pa_cons h (pa_cons h' pa_nil (star_cons hs')) (star_cons hs)) (by rw [star_cons hs, star_cons hs']; rfl) (star_cons hs')).weak fun σ H R ⟨O, σd, hr, hg⟩ => ⟨O, σd, hr, (Go.bind (r := ev ka l σd) hg).imp fun d σ1 H1 _ r1 k1 g v rv => ⟨O, σ1, r1, (Go.bind (r := ev kb l σ1) g).imp fun d' σ2 H2 _ r2 k2 g2 v' rv' => by
    cases d with
    | int i =>
      cases d' with
      | int j =>
        cases rv
        cases rv'
        obtain ⟨hj, g⟩ := Go.iff g2
        simp only [rngOk, Bool.and_eq_true, decide_eq_true_eq] at hj
        exact ⟨i, j, rfl, ⟨hj.1.1, hj.1.2, hj.2.1, hj.2.2⟩, g.ok r2 KeepE.refl _ wk_range⟩
      | _ => exact g2.elim
    | _ => cases d' <;> exact g2.elim⟩⟩
theorem i_enum {a : Expr} {k : E} {l : Lv} {p pos tpos : Pos} {elts : List Expr} {kk : Nat} (hK : X.K = Z.K) (hg : Gl X "enumerate") (hm : X.mg "enumerate" = none) (h : PE X a (TEe Z c W (tP Z) (ev k l))) (hs : notStar a = true) : PI X (.Tuple elts kk tpos) (.Call (.Name "enumerate" p) [a] [] pos) (TIe Z c W (evi (.enum k) l)) :=
  (pi_enumA hg hm (pa_cons h pa_nil (star_cons hs)) (star_cons hs)).weak fun σ H R ⟨O, σd, hr, hg⟩ => ⟨O, σd, hr, (Go.bind (r := ev k l σd) hg).imp fun d σ1 H1 _ r1 k1 g v rv => by
    obtain ⟨xs, ex, g⟩ := Go.opt g
    have fin := g.ok r1 KeepE.refl
    cases d <;> simp only [itemsOf, Option.some.injEq] at ex <;> first | (cases ex; done) | (subst ex)
    · cases rv with
      | tup s rs => exact ⟨_, _, rfl, .inr ⟨by rw [hK]; exact (hide_le _ _).sqT s, fin _ (by rw [hK]; exact wk_enumT rfl s rs)⟩⟩
    · cases rv with
      | lst s rs => exact ⟨_, _, rfl, .inl ⟨by rw [hK]; exact (hide_le _ _).sqL (SqL.of s), fin _ (by rw [hK]; exact wk_enum rfl (SqL.of s) rs)⟩⟩
    · cases rv with
      | frz s rs => exact ⟨_, _, rfl, .inl ⟨by rw [hK]; exact (hide_le _ _).sqL s, fin _ (by rw [hK]; exact wk_enum rfl s rs)⟩⟩⟩
theorem i_zip {a b : Expr} {ka kb : E} {l : Lv} {p pos tpos : Pos} {elts : List Expr} {kk : Nat} (hK : X.K = Z.K) (hg : Gl X "zip") (hm : X.mg "zip" = none) (h : PE X a (TEe Z c W (tP Z) (ev ka l))) (h' : PE X b (TEe Z c W (tP Z) (ev kb l))) (hs : notStar a = true) (hs' : notStar b = true) :
    PI X (.Tuple elts kk tpos) (.Call (.Name "zip" p) [a, b] [] pos) (TIe Z c W (evi (.zip ka kb) l)) :=
  (RZ.pi_zipA hg hm (pa_cons h (pa_cons h' pa_nil (star_cons hs')) (star_cons hs)) (star_cons hs) (by rw [star_cons hs']; rfl)).weak fun σ H R ⟨O, σd, hr, hg⟩ => ⟨O, σd, hr, (Go.bind (r := ev ka l σd) hg).imp fun d σ1 H1 _ r1 k1 g v rv => ⟨O, σ1, r1, (Go.bind (r := ev kb l σ1) g).imp fun d' σ2 H2 _ r2 k2 g2 v' rv' => by
    have rv := rv.le (r1.le k2)
    obtain ⟨⟨xs, ys⟩, ex, g⟩ := Go.opt g2
    have fin := g.ok r2 KeepE.refl
    cases d <;> cases d' <;> simp only [zipsOf, Option.some.injEq, Prod.mk.injEq] at ex <;> first | (cases ex; done) | (obtain ⟨rfl, rfl⟩ := ex)
    · cases rv with
      | tup s rs => cases rv' with
        | tup s' rs' => exact ⟨_, _, _, _, rfl, .inr ⟨by rw [hK]; exact (hide_le _ _).sqT s, by rw [hK]; exact (hide_le _ _).sqT s', fin _ (by rw [hK]; exact wk_zipT rfl s rs s' rs')⟩⟩
    · cases rv with
      | lst s rs => cases rv' with
        | lst s' rs' => exact ⟨_, _, _, _, rfl, .inl ⟨by rw [hK]; exact (hide_le _ _).sqL (SqL.of s), by rw [hK]; exact (hide_le _ _).sqL (SqL.of s'), fin _ (by rw [hK]; exact wk_zip rfl (SqL.of s) rs (SqL.of s') rs')⟩⟩⟩⟩
end
end BF

/-! Snd13 -/
set_option Elab.async false
set_option linter.all false
set_option maxRecDepth 100000
set_option maxHeartbeats 2000000
namespace BF
open PySem L2

theorem R.bind_ok {α β : Type} {r : R α} {f : α → R β} {b : β} (h : r.bind f = .ok b) : ∃ a, r = .ok a ∧ f a = .ok b := by
  cases r with
  | ok a => exact ⟨a, rfl, h⟩
  | exc k => cases h
  | bad => cases h
theorem nox_ok {α : Type} {r : R α} {b : α} (h : nox r = .ok b) : r = .ok b := by cases r <;> simp [nox] at h; rw [h]
theorem wipe_get {σ : L2.St} {j : Nat} : ∀ {vs : List Nat}, (wipe σ vs)[j]? = if j ∈ vs then σ[j]?.map fun _ => none else σ[j]?
  | [] => by simp [wipe]
  | v :: vs => by
    show ((wipe σ vs).set v none)[j]? = _
    by_cases h : j = v
    · subst h
      rw [List.getElem?_set_self', wipe_get]
      cases σ[j]? <;> simp <;> split <;> exact ⟨_, rfl⟩
    · rw [List.getElem?_set_ne (Ne.symm h), wipe_get]
      simp [h]
theorem wipeD_get {σ : Sd} {j : Nat} : ∀ {vs : List Nat}, (wipeD σ vs)[j]? = if j ∈ vs then σ[j]?.map fun _ => none else σ[j]?
  | [] => by simp [wipeD]
  | v :: vs => by
    show ((wipeD σ vs).set v none)[j]? = _
    by_cases h : j = v
    · subst h
      rw [List.getElem?_set_self', wipeD_get]
      cases σ[j]? <;> simp <;> split <;> exact ⟨_, rfl⟩
    · rw [List.getElem?_set_ne (Ne.symm h), wipeD_get]
      simp [h]
theorem wipeD_len {σ : Sd} : ∀ {vs : List Nat}, (wipeD σ vs).length = σ.length
  | [] => rfl
  | v :: vs => by simp [wipeD, wipeD_len]
theorem back_get {σ0 σ : Sd} {j : Nat} : ∀ {vs : List Nat}, (back vs σ0 σ)[j]? = if j ∈ vs then σ[j]?.map fun _ => (σ0[j]?).getD none else σ[j]?
  | [] => by simp [back]
  | v :: vs => by
    show ((back vs σ0 σ).set v _)[j]? = _
    by_cases h : j = v
    · subst h
      rw [List.getElem?_set_self', back_get]
      cases σ[j]? <;> simp <;> split <;> exact ⟨_, rfl⟩
    · rw [List.getElem?_set_ne (Ne.symm h), back_get]
      simp [h]
theorem back_len {σ0 σ : Sd} : ∀ {vs : List Nat}, (back vs σ0 σ).length = σ.length
  | [] => rfl
  | v :: vs => by simp [back, back_len]
theorem SameS.wipe {vs : List Nat} {σ σ' : L2.St} (h : SameS vs σ σ') : wipe σ' vs = wipe σ vs := by
  refine List.ext_getElem? fun j => ?_
  rw [wipe_get, wipe_get]
  by_cases hj : j ∈ vs
  · rw [if_pos hj, if_pos hj]
    by_cases hl : j < σ.length
    · rw [List.getElem?_eq_getElem hl, List.getElem?_eq_getElem (by rw [h.1]; exact hl)]
      rfl
    · have := h.1
      rw [List.getElem?_eq_none (by omega), List.getElem?_eq_none (by omega)]
  · rw [if_neg hj, if_neg hj, h.2 j hj]
theorem sameS_wipe {vs : List Nat} {σ : L2.St} : SameS vs σ (wipe σ vs) := ⟨wipe_length σ vs, fun j hj => by rw [wipe_get, if_neg hj]⟩
section
variable {Z : Wd} {c : Pl} {W : WX} {O : Addr → Prop} {σ σ' : L2.St} {σd : Sd} {H H' : Hp} {X : Cx}
theorem RelS.wipe (r : RelS Z c O σd σ H) : ∀ {vs : List Nat}, (∀ v ∈ vs, FreeS c v) → RelS Z c O (wipeD σd vs) (L2.wipe σ vs) H
  | [], _ => r
  | v :: vs, h => (RelS.wipe r fun w hw => h w (List.mem_cons_of_mem _ hw)).setN (h v List.mem_cons_self)
theorem SameS.notOwn {vs : List Nat} (h : SameS vs σ σ') (f : ∀ v ∈ vs, v ∉ c.own) {a : Addr} : NotOwn c σ' a ↔ NotOwn c σ a := by
  constructor
  · intro n i hi e
    exact n i hi (by rw [h.2 i fun z => f i z hi]; exact e)
  · intro n i hi e
    rw [h.2 i fun z => f i z hi] at e
    exact n i hi e
theorem lk_free {D : Addr} {i : Nat} (h : FreeS c i) : FreeS (lk c D) i := h
/-- the list that grows is written -/
theorem RelS.updL (r : RelS Z c O σd σ H) {D : Addr} (lD : c.lock D) (oD : O D) (nD : NotOwn c σ D) {o0 o : HO} (h0 : H D = some o0) (t0 : LD o0) (t : LD o) : RelS Z c O σd σ (upd H D o) := by
  have hh : hide (upd H D o) O = hide H O := hide_upd oD
  refine ⟨r.len, fun b hb => ?_, tabs_upd r.tab h0 t0, r.own, r.inj, fun i d e => ?_, r.hold⟩
  · by_cases z : b = D
    · subst z; exact ⟨o, upd_same, t.nt⟩
    · rw [upd_ne z]; exact r.dom b hb
  · rw [hh]
    obtain ⟨v, h1, h2, h3, h4⟩ := r.slot i d e
    refine ⟨v, h1, fun z => ?_, fun z1 z2 => ?_, h4⟩
    · obtain ⟨a, ea, ct⟩ := h2 z
      have ne : a ≠ D := fun w => nD i z (by rw [h1, ea, w])
      exact ⟨a, ea, ct.mono (Le.refl _) fun u q => by rw [upd_ne ne]; exact q⟩
    · rcases h3 z1 z2 with q | ⟨a, ea, oa, na, ct⟩
      · exact .inl (by rw [hh]; exact q)
      · have ne : a ≠ D := fun w => na.2 (w ▸ lD)
        exact .inr ⟨a, ea, oa, na, by rw [hh]; exact ct.mono (Le.refl _) fun u q => by rw [upd_ne ne]; exact q⟩
/-- behind a comprehension: its list is a value -/
theorem RelS.unlock {D : Addr} (r : RelS Z (lk c D) (BF.plus O D) σd σ H) (ho : ∀ i ∈ c.own, ∀ a, σ[i]? = some (some (.ref a)) → O a) : RelS Z c O σd σ H := by
  have g : Le (hide H (BF.plus O D)) (hide H O) := plus_less
  refine ⟨r.len, fun a h => r.dom a (.inl h), r.tab, ho, r.inj, fun i d e => ?_, r.hold⟩
  obtain ⟨v, h1, h2, h3, h4⟩ := r.slot i d e
  refine ⟨v, h1, fun z => ?_, fun z1 z2 => ?_, fun z1 z2 => (h4 z1 z2).le g⟩
  · obtain ⟨a, ea, ct⟩ := h2 z
    exact ⟨a, ea, ct.mono g fun _ q => q⟩
  · rcases h3 z1 z2 with q | ⟨a, ea, oa, na, ct⟩
    · exact .inl (q.le g)
    · have oa' : O a := oa.elim id fun z => absurd (.inr z) na.2
      exact .inr ⟨a, ea, oa', ⟨na.1, fun z => na.2 (.inl z)⟩, ct.mono g fun _ q => q⟩
/-- nothing is handed in -/
def noTh (l : Lv) : Lv := { l with th := .bad }
/-- what one turn of a comprehension does -/
def lcF (own : List Nat) (elt : E) (t : T) (c : Eo) (l : Lv) : D → Sd → R (Option D × Sd) := fun x σ => (asg t x (wipeD σ own)).bind fun σ1 => (evc c l σ1).bind fun q => if q.1 = true then (ev elt l q.2).bind fun r => .ok (some r.1, r.2) else .ok (none, q.2)
theorem ev_lc {own : List Nat} {elt : E} {t : T} {it : I} {cc : Eo} {l : Lv} {σ : Sd} : ev (.lc own elt t it cc) l σ = (evi it l σ).bind fun p => if l.hld.isSome && !p.1.all isTupD then .bad else (nox (lcGo (lcF own elt t cc (noTh l)) p.1 p.2 [])).bind fun q => .ok (.lst q.1, back own σ q.2) := rfl
theorem _root_.L2.PG.ex {e : Expr} {α : Type} {t : α → TG} (h : ∀ a, PG X e (t a)) : PG X e (fun v σ H Q => ∃ a, t a v σ H Q) := ⟨fun pins s σ H v u Q I r ⟨a, q⟩ => (h a).run pins s σ H v u Q I r q⟩
theorem _root_.L2.PTs.ex {e : List Expr} {α : Type} {t : α → TT} (h : ∀ a, PTs X e (t a)) : PTs X e (fun σ H Q => ∃ a, t a σ H Q) := ⟨fun pins s σ H Q I ⟨a, q⟩ => (h a).run pins s σ H Q I q⟩
theorem _root_.L2.PE.ex {e : Expr} {α : Type} {t : α → TE} (h : ∀ a, PE X e (t a)) : PE X e (fun σ H Q => ∃ a, t a σ H Q) := ⟨fun pins s σ H Q I ⟨a, q⟩ => (h a).run pins s σ H Q I q⟩
/-- no error -/
abbrev W0 : WX := fun _ _ _ _ => False
theorem Go.oks {β : Type} {r : R (β × Sd)} {q : β × Sd} {K : β → Sd → Hp → Prop} (e : r = .ok q) (h : ∀ H', RelS Z c O q.2 σ H' → KeepE c σ H H' → K q.1 q.2 H') : Go Z c W r O σ H K := by rw [e]; exact h
/-- the state of a comprehension at turn i: A the list that grows -/
def LcI (Z : Wd) (c : Pl) (O : Addr → Prop) (σ : L2.St) (H : Hp) (A : Addr) (own : List Nat) (f : D → Sd → R (Option D × Sd)) (xs : List D) (F : List D × Sd) (i : Nat) (H1 : Hp) : Prop :=
  ∃ σd ds vs, RelS Z (lk c A) (plus O A) (wipeD σd own) (wipe σ own) H1 ∧ H1 A = some (.lst vs) ∧ Reps Z (hide H1 (plus O A)) ds vs ∧ Le (hide H O) (hide H1 (plus O A)) ∧ KeepE c σ H H1 ∧ lcGo f (xs.drop i) σd ds = .ok F
def gLc (Z : Wd) (c : Pl) (P : D → Prop) (t : T) : TG := fun v σ H Q => ∃ a O σd d, RelS Z (lk c a) O σd σ H ∧ Rep Z (hide H O) d v ∧ P d ∧ TGo Z (lk c a) t O σ σd H d Q
theorem gLc_pg {e : Expr} {P : D → Prop} {t : T} (h : ∀ a, PG X e (TGr Z (lk c a) t)) : PG X e (gLc Z c P t) := (PG.ex h).weak fun v σ H Q ⟨a, O, σd, d, h1, h2, _, h4⟩ => ⟨a, O, σd, d, h1, h2, h4⟩
def ttLc (Z : Wd) (c : Pl) (f : Sd → R (Bool × Sd)) : TT := fun σ H Q => ∃ a, TTe Z (lk c a) W0 f σ H Q
def teLc (Z : Wd) (c : Pl) (f : Sd → R (D × Sd)) : TE := fun σ H Q => ∃ a, TEe Z (lk c a) W0 (tP Z) f σ H Q
theorem lc_step {own : List Nat} {elt : E} {t : T} {cc : Eo} {l : Lv} {xs : List D} {F : List D × Sd} {A : Addr} {i : Nat} {x : V} {H1 H2 : Hp} (hf : ∀ v ∈ own, FreeS c v) (hts : ∀ i ∈ slotsT t, i ∈ own) (hA : H A = none) (nA : NotOwn c σ A)
    (hi : i < xs.length) (I : LcI Z c O σ H A own (lcF own elt t cc l) xs F i H1) (l12 : Le H1 H2) {P : D → Prop} {d : D} (hP : P d) (hd : xs[i]? = some d) (rd : Rep Z (hide H2 (plus O A)) d x) :
    gLc Z c P t x (wipe σ own) H2 fun σ2 H2 => wipe σ2 own = wipe σ own ∧ ttLc Z c (evc cc l) σ2 H2 fun b H3 =>
        if b = true then teLc Z c (ev elt l) σ2 H3 fun y H4 => ∃ acc, H4 A = some (.lst acc) ∧ acc.length < sizeLine ∧ LcI Z c O σ H A own (lcF own elt t cc l) xs F (i + 1) (upd H4 A (.lst (acc ++ [y]))) else LcI Z c O σ H A own (lcF own elt t cc l) xs F (i + 1) H3 := by
  obtain ⟨σd, ds, vs, r1, hA1, rs1, le1, k1, eF⟩ := I
  have hdrop : xs.drop i = d :: xs.drop (i + 1) := by
    obtain ⟨h1, h2⟩ := List.getElem?_eq_some_iff.mp hd
    rw [List.drop_eq_getElem_cons h1, h2]
  rw [hdrop] at eF
  unfold lcGo at eF
  obtain ⟨⟨oy, σ5⟩, e1, eF⟩ := R.bind_ok eF
  unfold lcF at e1
  obtain ⟨σ3, ea, e1⟩ := R.bind_ok e1
  obtain ⟨⟨b, σ4⟩, ec, e1⟩ := R.bind_ok e1
  have r2 := r1.grow l12
  have g12 : Le (hide H1 (plus O A)) (hide H2 (plus O A)) := hide_mono fun a u e t n => ⟨l12 a u e, n⟩
  have nf : ∀ v ∈ own, v ∉ c.own := fun v hv => (hf v hv).1
  refine ⟨A, plus O A, wipeD σd own, d, r2, rd, hP, ?_⟩
  unfold TGo
  rw [ea]
  intro σ' r3 sm
  have sm2 : SameS own (wipe σ own) σ' := sm.mono hts
  have sm3 : SameS own σ σ' := sameS_wipe.trans sm2
  have wp : wipe σ' own = wipe σ own := sm3.wipe
  have nA' : NotOwn c σ' A := (sm3.notOwn nf).mpr nA
  refine ⟨wp, A, plus O A, σ3, r3, Go.oks ec fun H3 r4 k4 => ?_⟩
  have le3 : Le (hide H O) (hide H3 (plus O A)) := (le1.trans g12).trans (r3.le k4)
  have k4' : KeepE c σ H2 H3 := fun a o e t n => k4 a o e t ((sm3.notOwn nf).mpr n)
  have kk : KeepE c σ H H3 := (k1.trans (KeepE.of_le l12)).trans k4'
  have hA3 : H3 A = some (.lst vs) := k4 A _ (l12 A _ hA1) nt_lst nA'
  have rs3 : Reps Z (hide H3 (plus O A)) ds vs := (rs1.le g12).le (r3.le k4)
  cases b with
  | false =>
    simp only [Bool.false_eq_true, if_false] at e1 ⊢
    cases e1
    have r5 := r4.wipe (vs := own) fun v hv => lk_free (hf v hv)
    rw [wp] at r5
    exact ⟨_, ds, vs, r5, hA3, rs3, le3, kk, eF⟩
  | true =>
    simp only [if_true] at e1 ⊢
    obtain ⟨⟨dy, σ6⟩, ee, e1⟩ := R.bind_ok e1
    cases e1
    have eF : (if ds.length < SZ then lcGo (lcF own elt t cc l) (xs.drop (i + 1)) σ6 (ds ++ [dy]) else .bad) = .ok F := eF
    split at eF
    · rename_i hl
      refine ⟨A, plus O A, σ4, r4, Go.oks ee fun H4 r5 k5 y ry => ?_⟩
      have ry : Rep Z (hide H4 (plus O A)) dy y := ry
      have hA4 : H4 A = some (.lst vs) := k5 A _ hA3 nt_lst nA'
      have hh : hide (upd H4 A (.lst (vs ++ [y]))) (plus O A) = hide H4 (plus O A) := hide_upd (.inr rfl)
      have k5' : KeepE c σ H3 H4 := fun a o e t n => k5 a o e t ((sm3.notOwn nf).mpr n)
      refine ⟨vs, hA4, by rw [← rs1.length]; exact hl, σ6, ds ++ [dy], vs ++ [y], ?_, upd_same, ?_, ?_, ?_, eF⟩
      · have r6 := r5.updL (.inr rfl) (.inr rfl) nA' hA4 (.inl ⟨_, rfl⟩) (.inl ⟨vs ++ [y], rfl⟩)
        have r7 := r6.wipe (vs := own) fun v hv => lk_free (hf v hv)
        rw [wp] at r7
        exact r7
      · rw [hh]; exact (rs3.le (r4.le k5)).append (.cons ry .nil)
      · rw [hh]; exact le3.trans (r4.le k5)
      · intro a o e t n
        have ne : a ≠ A := ne_of_none e hA
        rw [upd_ne ne]
        exact (kk.trans k5') a o e t n
    · cases eF
theorem back_rel {own : List Nat} {σ0 σ1 : Sd} {H0 : Hp} {O' : Addr → Prop} {c' : Pl} (hf : ∀ v ∈ own, FreeS c v) (r0 : RelS Z c O σ0 σ H0) (c1 : c'.own = c.own) (c2 : c'.bor = c.bor) (c3 : c'.hold = c.hold) (c4 : ∀ b, O b → ¬ c.lock b → ¬ c'.lock b) (hO : ∀ b, O b → O' b) (r : RelS Z c' O' (wipeD σ1 own) (wipe σ own) H) (le : Le (hide H0 O) (hide H O')) : RelS Z c' O' (back own σ0 σ1) σ H := by
  obtain ⟨cw, cb, ch, cl⟩ := c'
  dsimp only at c1 c2 c3 c4
  subst c1 c2 c3
  have sm : SameS own σ (wipe σ own) := sameS_wipe
  have nf : ∀ v ∈ own, v ∉ c.own := fun v hv => (hf v hv).1
  have l1 : σ1.length = σ.length := by have := r.len; rw [wipeD_len, wipe_length] at this; exact this
  refine ⟨by rw [back_len]; exact l1, r.dom, r.tab, fun i hi a e => hO a (r0.own i hi a e), r0.inj, fun i d e => ?_, r0.hold⟩
  rw [back_get] at e
  by_cases hi : i ∈ own
  · rw [if_pos hi] at e
    obtain ⟨f1, f2, f3⟩ := hf i hi
    have e0 : σ0[i]? = some (some d) := by
      cases h1 : σ1[i]? with
      | none => rw [h1] at e; simp at e
      | some q =>
        rw [h1] at e
        cases h0 : σ0[i]? with
        | none => rw [h0] at e; simp at e
        | some w => rw [h0] at e; simpa using e
    obtain ⟨v, q1, q2, q3, q4⟩ := r0.slot i d e0
    exact ⟨v, q1, fun z => absurd z f1, fun _ z => absurd z f2, fun z1 z2 => (q4 z1 z2).le le⟩
  · rw [if_neg hi] at e
    obtain ⟨v, q1, q2, q3, q4⟩ := r.slot i d (by rw [wipeD_get, if_neg hi]; exact e)
    refine ⟨v, by rw [← sm.2 i hi]; exact q1, q2, fun z1 z2 => ?_, q4⟩
    rcases q3 z1 z2 with q | ⟨a, ea, oa, na, ct⟩
    · exact .inl q
    · exact .inr ⟨a, ea, oa, ⟨(sm.notOwn nf).mp na.1, na.2⟩, ct⟩
/-- a comprehension, from its iterator on -/
theorem lc_turns {P : D → Prop} {own : List Nat} {elt : E} {t : T} {cc : Eo} {l : Lv} {xs : List D} {J : It} {σ0 σ1 : Sd} {H0 : Hp} {Q : VK} (hf : ∀ v ∈ own, FreeS c v) (hts : ∀ i ∈ slotsT t, i ∈ own)
    (hr0 : RelS Z c O σ0 σ H0) (k0 : KeepE c σ H0 H) (hr : RelS Z c O σ1 σ H) (w : Wk Z O H xs J) (hP : ∀ d ∈ xs, P d) (g : Go Z c W ((nox (lcGo (lcF own elt t cc l) xs σ1 [])).bind fun q => .ok (.lst q.1, back own σ0 q.2)) O σ H (KF Z c O σ H0 Q)) :
    ∀ A, H A = none → ∃ W : Nat → Nat → Hp → Prop, (∃ m, W 0 m (upd H A (.lst []))) ∧ ∀ i m H, W i m H →
      (J.stop i H ∧ Q (.ref A) H) ∨ (J.go i H ∧ ∃ Nx : Hp → Prop, (∀ H', Nx H' → ∃ m', m' < m ∧ W (i + 1) m' H') ∧ ∀ x H', J.yld i H x H' → gLc Z c P t x (wipe σ own) H' fun σ2 H2 => wipe σ2 own = wipe σ own ∧ ttLc Z c (evc cc l) σ2 H2 fun b H3 =>
        if b = true then teLc Z c (ev elt l) σ2 H3 fun y H4 => ∃ acc, H4 A = some (.lst acc) ∧ acc.length < sizeLine ∧ Nx (upd H4 A (.lst (acc ++ [y]))) else Nx H3) := fun A hA => by
  have nOA : ¬ O A := fun z => by
    obtain ⟨u, e, _⟩ := hr.dom A z
    rw [hA] at e; cases e
  have nA : NotOwn c σ A := hr.notOwn nOA
  cases hF : nox (lcGo (lcF own elt t cc l) xs σ1 []) with
  | exc k => rw [hF] at g; cases h : lcGo (lcF own elt t cc l) xs σ1 [] <;> rw [h] at hF <;> simp [nox] at hF
  | bad => rw [hF] at g; exact g.elim
  | ok F =>
    rw [hF] at g
    have g : Go Z c W (.ok (.lst F.1, back own σ0 F.2)) O σ H (KF Z c O σ H0 Q) := g
    have eF := nox_ok hF
    obtain ⟨G, Y, wk, hG, hY⟩ := w
    refine lc_it wk (LcI Z c O σ H A own (lcF own elt t cc l) xs F) ?_ ?_ ?_ ?_
    · refine ⟨σ1, [], [], ?_, upd_same, .nil, plus_le _ hA, ?_, eF⟩
      · exact (hr.locked hA _ nt_lst).wipe fun v hv => lk_free (hf v hv)
      · exact KeepE.of_le (le_upd hA)
    · rintro i H1 _ ⟨σd, ds, vs, r1, hA1, rs1, le1, k1, eF⟩
      exact hG _ _ le1
    · rintro i x H1 H2 hi I y
      have I' := I
      obtain ⟨σd, ds, vs, r1, hA1, rs1, le1, k1, eF⟩ := I'
      obtain ⟨l12, d, hd, rd⟩ := hY i H1 x H2 _ hi le1 ⟨r1.dom, r1.tab⟩ y
      exact lc_step hf hts hA nA hi I l12 (hP d (List.mem_of_getElem? hd)) hd rd
    · rintro H1 ⟨σd, ds, vs, r1, hA1, rs1, le1, k1, eF⟩
      rw [List.drop_length] at eF
      unfold lcGo at eF
      cases eF
      have ow : ∀ i ∈ c.own, ∀ a, (wipe σ own)[i]? = some (some (.ref a)) → O a := fun i hi a e => by
        rw [sameS_wipe.2 i fun z => (hf i z).1 hi] at e
        exact hr.own i hi a e
      have le2 : Le (hide H O) (hide H1 O) := le1.trans plus_less
      have r2 : RelS Z c O (back own σ0 σd) σ H1 := back_rel (c' := c) hf hr0 rfl rfl rfl (fun _ _ h => h) (fun _ h => h) (r1.unlock ow) ((hr0.le k0).trans le2)
      have v1 : hide H1 O A = some (.lst vs) := hide_some.mpr ⟨⟨nOA, nt_lst⟩, hA1⟩
      refine g.ok r2 k1 (.ref A) (fun _ => ⟨A, rfl, hr0.back hr k0 (fre_none hA), ⟨vs, hA1, rs1⟩, ?_⟩) (.lst v1 (rs1.le plus_less))
      exact back_rel (c' := lk c A) hf hr0 rfl rfl rfl (fun b ob nb z => z.elim nb fun e => nOA (e ▸ ob)) (fun _ h => .inl h) r1 ((hr0.le k0).trans le1)
theorem lc_red {own : List Nat} {elt : E} {t : T} {it : I} {cc : Eo} {l : Lv} {σ : L2.St} {H : Hp} {Q : VK} (hf : ∀ v ∈ own, FreeS c v) (hts : ∀ i ∈ slotsT t, i ∈ own)
    (q : TFe Z c W (ev (.lc own elt t it cc) l) σ H Q) : tLc (TIe Z c W (evi it l)) (gLc Z c (fun d => l.hld.isSome = true → isTupD d = true) t) (ttLc Z c (evc cc (noTh l))) (teLc Z c (ev elt (noTh l))) own σ H Q := by
  obtain ⟨O, σd, hr, hg⟩ := q
  rw [ev_lc] at hg
  refine ⟨O, σd, hr, (Go.bind (r := evi it l σd) hg).imp fun xs σ1 H1 _ r1 k1 g J w => ?_⟩
  cases hb : (l.hld.isSome && !xs.all isTupD) with
  | true =>
    have g : Go Z c W (if (l.hld.isSome && !xs.all isTupD) = true then .bad else (nox (lcGo (lcF own elt t cc (noTh l)) xs σ1 [])).bind fun q => .ok (.lst q.1, back own σd q.2)) O σ H1 (KF Z c O σ H Q) := g
    rw [hb] at g
    exact g.elim
  | false =>
    have g : Go Z c W (if (l.hld.isSome && !xs.all isTupD) = true then .bad else (nox (lcGo (lcF own elt t cc (noTh l)) xs σ1 [])).bind fun q => .ok (.lst q.1, back own σd q.2)) O σ H1 (KF Z c O σ H Q) := g
    rw [hb] at g
    refine lc_turns hf hts hr k1 r1 w (fun d hd hh => ?_) g
    rw [hh] at hb
    simp only [Bool.true_and, Bool.not_eq_false'] at hb
    exact List.all_eq_true.mp hb d hd
theorem pe_of_lc {elt tg iter : Expr} {ifs : List Expr} {scope : Scope} {own : List (Str × Nat)} {pos : Pos} {ke : E} {t : T} {it : I} {cc : Eo} {l : Lv} (hc : X.calm = true) (hN : X.N.Nodup) (ok : BlkOk X.N X.env.scope scope own) (hf : ∀ v ∈ own.map (·.2), FreeS c v) (hts : ∀ i ∈ slotsT t, i ∈ own.map (·.2))
    (hi : PI X tg iter (TIe Z c W (evi it l)))
    (hg : ∀ (a : Addr) (s : Shared) (H : Hp) (C : Addr) (cl : List (Str × Addr)) (fp : List Addr), PG (X.blk s H scope (compEnvC scope cl C X.env) fp) tg (TGr Z (lk c a) t))
    (ht : ∀ (a : Addr) (s : Shared) (H : Hp) (C : Addr) (cl : List (Str × Addr)) (fp : List Addr), PTs (X.blk s H scope (compEnvC scope cl C X.env) fp) ifs (TTe Z (lk c a) W0 (evc cc (noTh l))))
    (he : ∀ (a : Addr) (s : Shared) (H : Hp) (C : Addr) (cl : List (Str × Addr)) (fp : List Addr), PE (X.blk s H scope (compEnvC scope cl C X.env) fp) elt (TEe Z (lk c a) W0 (tP Z) (ev ke (noTh l))))
    (hs : ∀ x, foldedSetIterable iter X.env x = pure x) : PE X (.ListComp elt [⟨tg, iter, ifs, 0⟩] scope pos) (TFe Z c W (ev (.lc (own.map (·.2)) ke t it cc) l)) :=
  (pe_lc hc hN hi ok (fun s H C cl fp => gLc_pg fun a => hg a s H C cl fp) (fun s H C cl fp => .ex fun a => ht a s H C cl fp) (fun s H C cl fp => .ex fun a => he a s H C cl fp) hs).weak fun σ H Q q => lc_red hf hts q
/-- name = [..] on one line -/
theorem ps_of_setLc {i : Nat} {y : Str} {py : Pos} {elt tg iter : Expr} {ifs : List Expr} {scope : Scope} {own : List (Str × Nat)} {pos spos : Pos} {ke : E} {t : T} {it : I} {cc : Eo} {l : Lv} (hc : X.calm = true) (hN : X.N.Nodup) (ok : BlkOk X.N X.env.scope scope own) (hf : ∀ v ∈ own.map (·.2), FreeS c v) (hts : ∀ i ∈ slotsT t, i ∈ own.map (·.2))
    (hy : X.N[i]? = some y) (hyl : X.env.scope.names.lookup y = some .local) (hsw : swapsWith (.ListComp elt [⟨tg, iter, ifs, 0⟩] scope pos) (some (.Name y py)) spos.line X.env = pure true)
    (hi : PI X tg iter (TIe Z c W (evi it l)))
    (hg : ∀ (a : Addr) (s : Shared) (H : Hp) (C : Addr) (cl : List (Str × Addr)) (fp : List Addr), PG (X.blk s H scope (compEnvC scope cl C X.env) fp) tg (TGr Z (lk c a) t))
    (ht : ∀ (a : Addr) (s : Shared) (H : Hp) (C : Addr) (cl : List (Str × Addr)) (fp : List Addr), PTs (X.blk s H scope (compEnvC scope cl C X.env) fp) ifs (TTe Z (lk c a) W0 (evc cc (noTh l))))
    (he : ∀ (a : Addr) (s : Shared) (H : Hp) (C : Addr) (cl : List (Str × Addr)) (fp : List Addr), PE (X.blk s H scope (compEnvC scope cl C X.env) fp) elt (TEe Z (lk c a) W0 (tP Z) (ev ke (noTh l))))
    (hs : ∀ x, foldedSetIterable iter X.env x = pure x) : PS X (.Assign [.Name y py] (.ListComp elt [⟨tg, iter, ifs, 0⟩] scope pos) spos) (tAsg (TFe Z c W (ev (.lc (own.map (·.2)) ke t it cc) l)) (gName i)) :=
  (ps_setLc hc hN hy hyl hsw hi ok (fun s H C cl fp => gLc_pg fun a => hg a s H C cl fp) (fun s H C cl fp => .ex fun a => ht a s H C cl fp) (fun s H C cl fp => .ex fun a => he a s H C cl fp) hs).weak fun D σ H q => lc_red hf hts q
end
end BF

/-! Snd14 -/
set_option Elab.async false
set_option linter.all false
set_option maxRecDepth 100000
set_option maxHeartbeats 2000000
namespace BF
open PySem L2

/-- where a def's body started -/
structure Bs where
  O0 : Addr → Prop
  H0 : Hp
  M : List V
  ms : List Nat
  fr : Bool
  n : Nat
  hd : Option V
/-- what is kept since -/
structure J (B : Bs) (c : Pl) (O : Addr → Prop) (σ : L2.St) (H : Hp) : Prop where
  sub : ∀ b, B.O0 b → O b
  new : ∀ b o, B.H0 b = some o → NT o → ¬ B.O0 b → ¬ O b
  keep : ∀ b o, B.H0 b = some o → NT o → V.ref b ∉ B.M → H b = some o
  own : ∀ i ∈ c.own, ∀ a, σ[i]? = some (some (.ref a)) → V.ref a ∈ B.M ∨ Fre B.H0 a
  ms : OutsAt σ B.ms B.M
  len : σ.length = B.n
  hd : ∀ v, B.hd = some v → σ[0]? = some (some v)
structure BsOk (Z : Wd) (B : Bs) (c : Pl) : Prop where
  dom : ∀ a, B.O0 a → ∃ o, B.H0 a = some o ∧ NT o
  hM : ∀ a, V.ref a ∈ B.M → B.O0 a
  ms : ∀ i ∈ B.ms, i ∈ c.own
  hd : ∀ v, B.hd = some v → 0 ∈ c.bor ∧ 0 ∉ c.own
/-- a value handed back -/
def RtR (B : Bs) (Z : Wd) (σd : Sd) (H : Hp) (d : D) (v : V) : Prop :=
  Rep Z (hide H B.O0) d v ∧ (B.fr = true → isContainer d = true → ∃ a, v = .ref a ∧ Fre B.H0 a ∧ Cont Z H (hide H (plus B.O0 a)) d a ∧ ∀ xs, getAll σd B.ms = .ok xs → OutR Z H (plus B.O0 a) xs B.M)
def EndF (B : Bs) (Z : Wd) (c : Pl) (fl : Fl) (O : Addr → Prop) (σd : Sd) (σ : L2.St) (H : Hp) (D : Ends) : Prop := match fl with
  | .nx => D.nx σ H
  | .br => D.bk σ H
  | .ct => D.ct σ H
  | .rt d => ∀ v, RtR B Z σd H d v → D.rt v H
def GoS (B : Bs) (Z : Wd) (c : Pl) (W : WX) (r : R (Fl × Sd)) (O : Addr → Prop) (H : Hp) (D : Ends) : Prop := match r with
  | .ok q => ∀ O' σ' H', RelS Z c O' q.2 σ' H' → J B c O' σ' H' → Le (hide H O) (hide H' O') → EndF B Z c q.1 O' q.2 σ' H' D
  | .exc k => ∀ O' σ' H', RelS Z c O' (List.replicate σ'.length none) σ' H' → J B c O' σ' H' → Le (hide H O) (hide H' O') → W (.ref (Z.cad k)) none σ' H'
  | .bad => False
def TSe (B : Bs) (Z : Wd) (c : Pl) (W : WX) (f : Sd → R (Fl × Sd)) : TS := fun D σ H => ∃ O σd, RelS Z c O σd σ H ∧ J B c O σ H ∧ GoS B Z c W (f σd) O H D
section
variable {B : Bs} {Z : Wd} {c : Pl} {W : WX} {O O1 : Addr → Prop} {σ : L2.St} {σd : Sd} {H H' : Hp} {X : Cx} {N : Ends}
theorem Fre.back (j : J B c O σ H) (hd : ∀ a, O a → ∃ o, H a = some o ∧ NT o) (hM : ∀ a, V.ref a ∈ B.M → O a) {a : Addr} (h : Fre H a) : Fre B.H0 a := fun o e t => by
  by_cases hm : V.ref a ∈ B.M
  · obtain ⟨u, q, t'⟩ := hd a (hM a hm)
    exact h u q t'
  · exact h o (j.keep a o e t hm) t
theorem J.keepE (j : J B c O σ H) (k : KeepE c σ H H') : J B c O σ H' := ⟨j.sub, j.new, fun b o e t n => k b o (j.keep b o e t n) t fun i hi q => by
  rcases j.own i hi b q with z | z
  · exact n z
  · exact z o e t, j.own, j.ms, j.len, j.hd⟩
/-- the values of the changed parameters are one's own -/
theorem outs_O (hr : RelS Z c O σd σ H) : ∀ {is : List Nat} {M : List V}, OutsAt σ is M → (∀ i ∈ is, i ∈ c.own) → ∀ a, V.ref a ∈ M → O a
  | [], [], _, _, a, h => nomatch h
  | [], _ :: _, h, _, _, _ => h.elim
  | _ :: _, [], h, _, _, _ => h.elim
  | i :: is, v :: M, h, ho, a, ha => by
    rcases List.mem_cons.mp ha with rfl | ha
    · exact hr.own i (ho i List.mem_cons_self) a h.1
    · exact outs_O hr h.2 (fun j hj => ho j (List.mem_cons_of_mem _ hj)) a ha
theorem GoS.start {r : R (Fl × Sd)} (g : GoS B Z c W r O H N) (l : Le (hide H O) (hide H' O1)) : GoS B Z c W r O1 H' N := by
  cases r with
  | ok q => exact fun O' σ' H2 r j l2 => g O' σ' H2 r j (l.trans l2)
  | exc k => exact fun O' σ' H2 r j l2 => g O' σ' H2 r j (l.trans l2)
  | bad => exact g
/-- an expression ahead -/
theorem GoS.go {β : Type} {r : R (β × Sd)} {g : β × Sd → R (Fl × Sd)} (hr : RelS Z c O σd σ H) (j : J B c O σ H) (h : GoS B Z c W (r.bind g) O H N) : Go Z c W r O σ H fun b σd' H' => RelS Z c O σd' σ H' → J B c O σ H' → KeepE c σ H H' → GoS B Z c W (g (b, σd')) O H N := by
  cases r with
  | ok q =>
    intro H' r' k' _ j' _
    exact h
  | exc k => exact fun H' r' k' => h O σ H' r' (j.keepE k') (hr.le k')
  | bad => exact h
theorem GoS.pure {α : Type} {r : R α} {g : α → R (Fl × Sd)} (h : GoS B Z c W (r.bind g) O H N) (hp : ∀ k, r ≠ .exc k) : ∃ a, r = .ok a ∧ GoS B Z c W (g a) O H N := by
  cases r with
  | ok a => exact ⟨a, rfl, h⟩
  | exc k => exact absurd rfl (hp k)
  | bad => exact h.elim
theorem GoS.opt {α : Type} {o : Option α} {g : α → R (Fl × Sd)} (h : GoS B Z c W ((R.ofO o).bind g) O H N) : ∃ a, o = some a ∧ GoS B Z c W (g a) O H N := by
  obtain ⟨a, e, q⟩ := h.pure ofO_ne
  exact ⟨a, ofO_ok e, q⟩
theorem GoS.iff {p : Prop} [Decidable p] {r : R (Fl × Sd)} (h : GoS B Z c W (if p then r else .bad) O H N) : p ∧ GoS B Z c W r O H N := by
  by_cases hp : p
  · rw [if_pos hp] at h; exact ⟨hp, h⟩
  · rw [if_neg hp] at h; exact h.elim
/-- it ends here -/
theorem GoS.done {q : Fl × Sd} (h : GoS B Z c W (.ok q) O H N) (hr : RelS Z c O1 q.2 σ H') (j : J B c O1 σ H') (l : Le (hide H O) (hide H' O1)) : EndF B Z c q.1 O1 q.2 σ H' N := h O1 σ H' hr j l
/-! ### small statements -/
theorem ts_pass {pos : Pos} {l : Lv} : PS X (.Pass pos) (TSe B Z c W (ex .pass l)) := ps_pass.weak fun D σ H ⟨O, σd, hr, j, g⟩ => g.done hr j (Le.refl _)
theorem ts_break {pos : Pos} {l : Lv} : PS X (.Break pos) (TSe B Z c W (ex .brk l)) := ps_break.weak fun D σ H ⟨O, σd, hr, j, g⟩ => g.done hr j (Le.refl _)
theorem ts_cont {pos : Pos} {l : Lv} : PS X (.Continue pos) (TSe B Z c W (ex .cont l)) := ps_continue.weak fun D σ H ⟨O, σd, hr, j, g⟩ => g.done hr j (Le.refl _)
def notLc : Expr → Bool
  | .ListComp .. => false
  | .SetComp .. => false
  | .DictComp .. => false
  | _ => true
theorem swaps_no {e : Expr} {t : Option Expr} {n : Nat} {env : Env} (h : notLc e = true) : swapsWith e t n env = pure false := by
  cases e <;> first | rfl | (simp [notLc] at h)
theorem ts_expr {e : Expr} {k : E} {l : Lv} {pos : Pos} (he : PE X e (TEe Z c W (tP Z) (ev k l))) (h : notLc e = true) : PS X (.Expr e pos) (TSe B Z c W (ex (.expr k) l)) :=
  (ps_expr he (swaps_no h)).weak fun D σ H ⟨O, σd, hr, j, g⟩ => ⟨O, σd, hr, (GoS.go (r := ev k l σd) hr j g).imp fun d σ1 H1 _ r1 k1 g v _ => (g r1 (j.keepE k1) k1).done r1 (j.keepE k1) (hr.le k1)⟩
theorem ts_retN {pos : Pos} {l : Lv} : PS X (.Return none pos) (TSe B Z c W (ex .retN l)) := ps_retN.weak fun D σ H ⟨O, σd, hr, j, g⟩ => (g.done hr j (Le.refl _)) .non ⟨.non, fun _ h => by cases h⟩
theorem hide_sub {P P' : Addr → Prop} (h : ∀ a, P a → P' a) : Le (hide H P') (hide H P) := hide_less h
theorem outR_of {P : Addr → Prop} (hr : RelS Z c O σd σ H) (hs : ∀ b, P b → O b) : ∀ {is : List Nat} {M : List V} {xs : List D}, OutsAt σ is M → (∀ i ∈ is, i ∈ c.own) → (∀ a, V.ref a ∈ M → P a) → getAll σd is = .ok xs → OutR Z H P xs M
  | [], [], xs, _, _, _, e => by simp [getAll] at e; subst e; trivial
  | [], _ :: _, _, h, _, _, _ => h.elim
  | _ :: _, [], _, h, _, _, _ => h.elim
  | i :: is, v :: M, xs, h, ho, hP, e => by
    unfold getAll at e
    obtain ⟨d, e1, e⟩ := R.bind_ok e
    obtain ⟨ds, e2, e⟩ := R.bind_ok e
    cases e
    obtain ⟨w, q1, q2, _⟩ := hr.slot i d (getS_ok e1)
    rw [h.1] at q1
    obtain rfl : v = w := by simpa using q1
    obtain ⟨a, rfl, ct⟩ := q2 (ho i List.mem_cons_self)
    exact ⟨⟨a, rfl, hP a List.mem_cons_self, ct.mono (hide_sub hs) fun _ q => q⟩, outR_of hr hs h.2 (fun j hj => ho j (List.mem_cons_of_mem _ hj)) (fun b hb => hP b (List.mem_cons_of_mem _ hb)) e2⟩
theorem ret_iff {b : Bool} {d : D} {σ : Sd} (h : GoS B Z c W (if b = true then .bad else .ok (.rt d, σ)) O H N) : b = false ∧ GoS B Z c W (.ok (.rt d, σ)) O H N := by
  cases b with
  | true => exact h.elim
  | false => exact ⟨rfl, h⟩
/-- return e: fresh if the def is to give new containers -/
theorem ts_ret {e : Expr} {k : E} {l : Lv} {pos : Pos} (hB : BsOk Z B c) (hfr : l.fr = B.fr) (he : PE X e (TEe Z c W (tP Z) (ev k l))) (hF : freshE (frOf l.tb) k = true → PE X e (TFe Z c W (ev k l))) : PS X (.Return (some e) pos) (TSe B Z c W (ex (.ret k) l)) := by
  cases hk : freshE (frOf l.tb) k with
  | false =>
    refine (ps_ret he).weak fun D σ H ⟨O, σd, hr, j, g⟩ => ⟨O, σd, hr, (GoS.go (r := ev k l σd) hr j g).imp fun d σ1 H1 _ r1 k1 g v rv => ?_⟩
    obtain ⟨hb, g⟩ := ret_iff (g r1 (j.keepE k1) k1)
    refine GoS.done g r1 (j.keepE k1) (hr.le k1) v ⟨rv.le (hide_sub j.sub), fun h h2 => ?_⟩
    have h2 : isContainer d = true := h2
    rw [hk, hfr, h, h2] at hb
    cases hb
  | true =>
    refine (ps_ret (hF hk)).weak fun D σ H ⟨O, σd, hr, j, g⟩ => ⟨O, σd, hr, (GoS.go (r := ev k l σd) hr j g).imp fun d σ1 H1 _ r1 k1 g v fr rv => ?_⟩
    obtain ⟨hb, g⟩ := ret_iff (g r1 (j.keepE k1) k1)
    refine GoS.done g r1 (j.keepE k1) (hr.le k1) v ⟨rv.le (hide_sub j.sub), fun _ hc => ?_⟩
    obtain ⟨a, ea, ha, ct, r2⟩ := fr hc
    have hs : ∀ b, plus B.O0 a b → plus O a b := fun b z => z.elim (fun z => .inl (j.sub b z)) .inr
    exact ⟨a, ea, Fre.back j hr.dom (fun b hb => j.sub b (hB.hM b hb)) ha, ct.mono (hide_sub hs) fun _ q => q, fun xs ex => outR_of r2 hs j.ms hB.ms (fun b hb => .inl (hB.hM b hb)) ex⟩
theorem outsAt_idx : ∀ {is : List Nat} {M : List V} {v : V}, OutsAt σ is M → v ∈ M → ∃ i ∈ is, σ[i]? = some (some v) := outsAt_mem
/-- one's own container is handed back -/
theorem ts_retr {e : Expr} {i : Nat} {l : Lv} {pos : Pos} (hB : BsOk Z B c) (hi : i ∈ c.own) (hnp : i ∉ B.ms) (he : PE X e (tVar i)) : PS X (.Return (some e) pos) (TSe B Z c W (ex (.retr i) l)) :=
  (ps_ret he).weak fun D σ H ⟨O, σd, hr, j, g⟩ => by
    obtain ⟨d, ed, g⟩ := g.pure getS_ne
    obtain ⟨v, e1, q2, _⟩ := hr.slot i d (getS_ok ed)
    obtain ⟨a, rfl, ct⟩ := q2 hi
    refine ⟨_, e1, g.done hr j (Le.refl _) _ ?_⟩
    have oa : O a := hr.own i hi a e1
    have fa : Fre B.H0 a := by
      rcases j.own i hi a e1 with z | z
      · obtain ⟨k, hk, ek⟩ := outsAt_mem j.ms z
        exact absurd (hr.inj i hi k (hB.ms k hk) a e1 ek ▸ hk) hnp
      · exact z
    have no : ¬ B.O0 a := fun z => by
      obtain ⟨o, e, t⟩ := hB.dom a z
      exact fa o e t
    have hs : ∀ b, plus B.O0 a b → O b := fun b z => z.elim (j.sub b) fun z => z ▸ oa
    refine ⟨?_, fun _ hc => ⟨a, rfl, fa, ct.mono (hide_sub hs) fun _ q => q, fun xs ex => outR_of hr hs j.ms hB.ms (fun b hb => .inl (hB.hM b hb)) ex⟩⟩
    cases d with
    | lst xs => obtain ⟨vs, h, r⟩ := ct; exact .lst (hide_some.mpr ⟨⟨no, nt_lst⟩, h⟩) (r.le (hide_sub j.sub))
    | dic xs => obtain ⟨vs, h, r⟩ := ct; exact .dic (hide_some.mpr ⟨⟨no, nt_dK⟩, h⟩) (r.le (hide_sub j.sub))
    | _ => exact ct.elim
/-! ### blocks -/
theorem tss_nil {l : Lv} : PSs X [] (TSe B Z c W (exs .nil l)) := pss_nil.weak fun D σ H ⟨O, σd, hr, j, g⟩ => g.done hr j (Le.refl _)
theorem tss_cons {s : Stmt} {ss : List Stmt} {k : S} {ks : Ss} {l : Lv} (h1 : PS X s (TSe B Z c W (ex k l))) (h2 : PSs X ss (TSe B Z c W (exs ks l))) : PSs X (s :: ss) (TSe B Z c W (exs (.cons k ks) l)) :=
  (pss_cons h1 h2).weak fun D σ H ⟨O, σd, hr, j, g⟩ => by
    refine ⟨O, σd, hr, j, ?_⟩
    have g : GoS B Z c W ((ex k l σd).bind fun q => match q.1 with | .nx => exs ks l q.2 | f => .ok (f, q.2)) O H D := g
    cases hx : ex k l σd with
    | ok q =>
      rw [hx] at g
      intro O' σ' H' r' j' l'
      obtain ⟨fl, σ2⟩ := q
      cases fl with
      | nx => exact ⟨O', σ2, r', j', GoS.start g l'⟩
      | br => exact g O' σ' H' r' j' l'
      | ct => exact g O' σ' H' r' j' l'
      | rt d => exact g O' σ' H' r' j' l'
    | exc k' => rw [hx] at g; exact g
    | bad => rw [hx] at g; exact g
theorem ts_if {t : Expr} {a b : List Stmt} {kt : E} {ka kb : Ss} {l : Lv} {pos : Pos} (ht : PT X t (TTe Z c W (testF kt l))) (ha : PSs X a (TSe B Z c W (exs ka l))) (hb : PSs X b (TSe B Z c W (exs kb l))) :
    PS X (.If t a b pos) (TSe B Z c W (ex (.ifs kt ka kb) l)) :=
  (ps_if ht ha hb).weak fun D σ H ⟨O, σd, hr, j, g⟩ => by
    have g : GoS B Z c W ((lent kt (ev kt l σd) σd).bind fun p => (R.ofO (tru p.1)).bind fun k => if k = true then exs ka l p.2 else exs kb l p.2) O H D := g
    have g2 : GoS B Z c W ((testF kt l σd).bind fun q => if q.1 = true then exs ka l q.2 else exs kb l q.2) O H D := by
      revert g
      unfold testF
      cases lent kt (ev kt l σd) σd with
      | ok q =>
        intro g
        have g : GoS B Z c W ((R.ofO (tru q.1)).bind fun k => if k = true then exs ka l q.2 else exs kb l q.2) O H D := g
        show GoS B Z c W (((R.ofO (tru q.1)).bind fun k => R.ok (k, q.2)).bind _) O H D
        revert g
        cases tru q.1 <;> exact id
      | exc k => exact id
      | bad => exact id
    refine ⟨O, σd, hr, (GoS.go hr j g2).imp fun k σ1 H1 _ r1 k1 g => ?_⟩
    have g := (g r1 (j.keepE k1) k1).start (hr.le k1)
    cases k with
    | true => exact ⟨O, σ1, r1, j.keepE k1, g⟩
    | false => exact ⟨O, σ1, r1, j.keepE k1, g⟩
/-! ### stores -/
mutual
theorem asg_ne : ∀ (t : T) (d : D) (σ : Sd) (k : Nat), asg t d σ ≠ .exc k
  | .var i, d, σ, k => by simp [asg]
  | .tup ts, d, σ, k => by
    simp only [asg]
    split
    · split
      · exact asgs_ne ts _ σ k
      · simp
    · simp
theorem asgs_ne : ∀ (t : List T) (d : List D) (σ : Sd) (k : Nat), asgs t d σ ≠ .exc k
  | [], [], σ, k => by simp [asgs]
  | [], _ :: _, σ, k => by simp [asgs]
  | _ :: _, [], σ, k => by simp [asgs]
  | t :: ts, d :: ds, σ, k => by
    simp only [asgs]
    cases h : asg t d σ with
    | ok σ1 => exact asgs_ne ts ds σ1 k
    | exc q => exact absurd h (asg_ne t d σ q)
    | bad => simp [R.bind]
end

theorem outsAt_same {vs : List Nat} {σ σ' : L2.St} (sm : SameS vs σ σ') : ∀ {is : List Nat} {M : List V}, (∀ i ∈ is, i ∉ vs) → OutsAt σ is M → OutsAt σ' is M
  | [], [], _, h => h
  | [], _ :: _, _, h => h
  | _ :: _, [], _, h => h
  | i :: is, v :: M, n, h => ⟨by rw [sm.2 i (n i List.mem_cons_self)]; exact h.1, outsAt_same sm (fun j hj => n j (List.mem_cons_of_mem _ hj)) h.2⟩
theorem J.same {vs : List Nat} {σ' : L2.St} (j : J B c O σ H) (sm : SameS vs σ σ') (nf : ∀ v ∈ vs, FreeS c v) (hB : BsOk Z B c) : J B c O σ' H :=
  ⟨j.sub, j.new, j.keep, fun i hi a e => j.own i hi a (by rw [← sm.2 i fun z => (nf i z).1 hi]; exact e), outsAt_same sm (fun i hi z => (nf i z).1 (hB.ms i hi)) j.ms, sm.1.trans j.len, fun v hv => by rw [sm.2 0 fun z => (nf 0 z).2.1 (hB.hd v hv).1]; exact j.hd v hv⟩
/-- tg = e, plainly -/
theorem ts_asg {tg e : Expr} {k : E} {t : T} {l : Lv} {pos : Pos} (hB : BsOk Z B c) (hf : ∀ i ∈ slotsT t, FreeS c i) (he : PE X e (TEe Z c W (tP Z) (ev k l))) (hg : PG X tg (TGr Z c t)) (hs : swapsWithSole [tg] e pos.line X.env = pure false) (hw : swappedStores [tg] e X.env = pure none)
    (h1 : (assignEach [tg] X.env).map (·.2) = [assign tg X.env]) : PS X (.Assign [tg] e pos) (TSe B Z c W (ex (.asg t k) l)) :=
  (ps_asg he hg hs hw h1).weak fun D σ H ⟨O, σd, hr, j, g⟩ => ⟨O, σd, hr, (GoS.go (r := ev k l σd) hr j g).imp fun d σ1 H1 _ r1 k1 g v rv => by
    have j1 := j.keepE k1
    have g := g r1 j1 k1
    refine ⟨O, σ1, d, r1, rv, ?_⟩
    unfold TGo
    have g : GoS B Z c W ((asg t d σ1).bind fun σ' => .ok (.nx, σ')) O H D := g
    cases ha : asg t d σ1 with
    | ok σ2 =>
      rw [ha] at g
      intro σ' r' sm
      exact GoS.done g r' (j1.same sm hf hB) (hr.le k1)
    | exc q => rw [ha] at g; exact asg_ne t _ _ _ ha
    | bad => rw [ha] at g; exact g⟩
/-- one's own slot takes a new container -/
theorem RelS.setF {a : Addr} {i : Nat} {d : D} (r : RelS Z (lk c a) (BF.plus O a) σd σ H) (hi : i ∈ c.own) (na : NotOwn c σ a) (hh : ∀ v, c.hold ≠ some (i, v)) (ct : Cont Z H (hide H (BF.plus O a)) d a) : RelS Z c (BF.plus O a) (σd.set i (some d)) (σ.set i (some (.ref a))) H := by
  have cases_ : ∀ {j : Nat} {b : Addr}, (σ.set i (some (V.ref a)))[j]? = some (some (.ref b)) → (j = i ∧ b = a) ∨ (j ≠ i ∧ σ[j]? = some (some (.ref b))) := fun {j b} e => by
    rcases set_some e with ⟨rfl, e1, _⟩ | z
    · simp at e1; exact .inl ⟨rfl, e1.symm⟩
    · exact .inr z
  refine ⟨by simp [r.len], r.dom, r.tab, fun j hj b e => ?_, fun j hj k hk b e e' => ?_, fun j d' e => ?_, fun j w hw => ?_⟩
  · rcases cases_ e with ⟨_, rfl⟩ | ⟨_, e⟩
    · exact .inr rfl
    · exact r.own j hj b e
  · rcases cases_ e with ⟨rfl, rfl⟩ | ⟨n1, e2⟩
    · rcases cases_ e' with ⟨rfl, _⟩ | ⟨_, e'⟩
      · rfl
      · exact absurd e' (na k hk)
    · rcases cases_ e' with ⟨rfl, rfl⟩ | ⟨_, e3⟩
      · exact absurd e2 (na j hj)
      · exact r.inj j hj k hk b e2 e3
  · rcases set_some e with ⟨rfl, e1, o, eo⟩ | ⟨ne, e1⟩
    · cases e1
      exact ⟨.ref a, set_at (m := []) r.len eo _, fun _ => ⟨a, rfl, ct⟩, fun z => absurd hi z, fun z => absurd hi z⟩
    · obtain ⟨w, h1, h2, h3, h4⟩ := r.slot j d' e1
      refine ⟨w, by rw [List.getElem?_set_ne (Ne.symm ne)]; exact h1, h2, fun z1 z2 => ?_, h4⟩
      rcases h3 z1 z2 with q | ⟨b, eb, ob, nb, cb⟩
      · exact .inl q
      · refine .inr ⟨b, eb, ob, ⟨fun k hk e => ?_, fun z => nb.2 (.inl z)⟩, cb⟩
        rcases cases_ e with ⟨_, rfl⟩ | ⟨_, e⟩
        · exact nb.2 (.inr rfl)
        · exact nb.1 k hk e
  · have ne : i ≠ j := fun z => hh w (by rw [z]; exact hw)
    rw [List.getElem?_set_ne ne]
    exact r.hold j w hw
theorem J.setF {a : Addr} {i : Nat} (j : J B c O σ H) (hB : BsOk Z B c) (hi : i ∈ c.own) (hm : i ∉ B.ms) (ha : Fre B.H0 a) : J B c (plus O a) (σ.set i (some (.ref a))) H := by
  refine ⟨fun b h => .inl (j.sub b h), fun b o e t n z => z.elim (j.new b o e t n) fun z => by rw [z] at e; exact ha o e t, j.keep, fun k hk b e => ?_, outsAt_same (SameS.set (vs := [i]) (by simp)) (fun k hk z => hm ((List.mem_singleton.mp z) ▸ hk)) j.ms, by rw [List.length_set]; exact j.len, fun v hv => by rw [List.getElem?_set_ne (fun (z : i = 0) => (hB.hd v hv).2 (z ▸ hi))]; exact j.hd v hv⟩
  rcases set_some e with ⟨rfl, e1, _⟩ | ⟨ne, e1⟩
  · simp at e1; rw [← e1]; exact .inr ha
  · exact j.own k hk b e1
theorem ts_asgr {i : Nat} {x : Str} {e : Expr} {k : E} {l : Lv} {pos : Pos} {s : Stmt} (hB : BsOk Z B c) (hi : i ∈ c.own) (hm : i ∉ B.ms) (hh : ∀ v, c.hold ≠ some (i, v)) (h : PS X s (tAsg (TFe Z c W (ev k l)) (gName i))) : PS X s (TSe B Z c W (ex (.asgr i k) l)) :=
  h.weak fun D σ H ⟨O, σd, hr, j, g⟩ => by
    obtain ⟨_, g⟩ := GoS.iff (show GoS B Z c W (if freshE (frOf l.tb) k then (ev k l σd).bind fun p => if isContainer p.1 then .ok (.nx, p.2.set i (some p.1)) else .bad else .bad) O H D from g)
    refine ⟨O, σd, hr, (GoS.go (r := ev k l σd) hr j g).imp fun d σ1 H1 _ r1 k1 g v fr rv => ?_⟩
    have j1 := j.keepE k1
    obtain ⟨hc, g⟩ := GoS.iff (g r1 j1 k1)
    obtain ⟨a, rfl, fa, ct, r2⟩ := fr hc
    have nOa : ¬ O a := fun z => by
      obtain ⟨o, e, t⟩ := hr.dom a z
      exact fa o e t
    have fa0 : Fre B.H0 a := Fre.back j hr.dom (fun b hb => j.sub b (hB.hM b hb)) fa
    exact GoS.done g (r2.setF hi (hr.notOwn nOa) hh ct) (j1.setF hB hi hm fa0) (hide_mono fun b o e t n => ⟨k1 b o e t (hr.notOwn n), fun z => z.elim n fun z => by rw [z] at e; exact fa o e t⟩)
end
end BF

/-! Snd15 -/
set_option Elab.async false
set_option linter.all false
set_option maxRecDepth 100000
set_option maxHeartbeats 2000000
namespace BF
open PySem L2

section
variable {B : Bs} {Z : Wd} {c : Pl} {W : WX} {O O1 : Addr → Prop} {σ : L2.St} {σd : Sd} {H H' : Hp} {X : Cx} {N : Ends}
theorem repK_any {kvs : List (D × D)} {ks : List (Key × V)} {k : D} {q : Key} (r : RepK Z H kvs ks) (hk : KeyR k q) : (kvs.any fun p => deq p.1 k) = ks.any fun p => decide (p.1 = q) := by
  rw [dget_any, valV_any]
  have h := dget_val r hk
  cases hd : dget kvs k with
  | none => rw [hd] at h; rw [h]; rfl
  | some d => rw [hd] at h; obtain ⟨v, h1, _⟩ := h; rw [h1]; rfl
theorem repK_map {k v : D} {q : Key} {w : V} (hk : KeyR k q) (rv : Rep Z H v w) : ∀ {kvs : List (D × D)} {ks : List (Key × V)}, RepK Z H kvs ks → RepK Z H (kvs.map fun p => if deq p.1 k = true then (p.1, v) else p) (ks.map fun p => if p.1 = q then (p.1, w) else p)
  | _, _, .nil => .nil
  | (k', d) :: kvs, (q', u) :: ks, .cons h1 h2 h3 => by
    have e := deq_key h1 hk
    simp only [List.map_cons]
    by_cases hq : q' = q
    · rw [if_pos (show deq k' k = true by rw [e]; simp [hq]), if_pos hq]
      exact .cons h1 rv (repK_map hk rv h3)
    · rw [if_neg (show ¬ deq k' k = true by rw [e]; simp [hq]), if_neg hq]
      exact .cons h1 h2 (repK_map hk rv h3)
theorem repK_append {k v : D} {q : Key} {w : V} (hk : KeyR k q) (rv : Rep Z H v w) : ∀ {kvs : List (D × D)} {ks : List (Key × V)}, RepK Z H kvs ks → RepK Z H (kvs ++ [(k, v)]) (ks ++ [(q, w)])
  | _, _, .nil => .cons hk rv .nil
  | _, _, .cons h1 h2 h3 => .cons h1 h2 (repK_append hk rv h3)
theorem repK_put {k v : D} {q : Key} {w : V} (hk : KeyR k q) (rv : Rep Z H v w) {kvs : List (D × D)} {ks : List (Key × V)} (r : RepK Z H kvs ks) : RepK Z H (dput kvs k v) (putK ks q w) := by
  unfold dput putK
  rw [repK_any r hk]
  split
  · exact repK_map hk rv r
  · exact repK_append hk rv r
theorem repK_len {kvs : List (D × D)} : ∀ {ks : List (Key × V)}, RepK Z H kvs ks → kvs.length = ks.length := by
  induction kvs with
  | nil => intro ks h; cases h; rfl
  | cons p kvs ih => intro ks h; cases h; rename_i h1 h2 h3; simp [ih h3]
def rSetLD : TSet := fun o i v H Q => rSetL o i v H Q ∨ rSetD o i v H Q
theorem set_both (hu : X.A.units + 1 < cLine) : PSet X rSetLD := fun pins s σ H o i v ov iv u Q I ro ri rv h => by
  rcases h with h | h
  · exact set_list pins s σ H o i v ov iv u Q I ro ri rv h
  · exact set_dict hu pins s σ H o i v ov iv u Q I ro ri rv h
theorem set_ok {i : Nat} {a : Addr} {da dk dv d' : D} {vk vv : V} {Q : Hp → Prop} (hr : RelS Z c O σd σ H) (hi : i ∈ c.own) (e : σ[i]? = some (some (.ref a))) (ct : Cont Z H (hide H O) da a) (rk : Rep Z (hide H O) dk vk) (rv : Rep Z (hide H O) dv vv) (es : setD da dk dv = some d')
    (h : ∀ H', RelS Z c O (σd.set i (some d')) σ H' → KeepE c σ H H' → Q H') : rSetLD (.ref a) vk vv H Q := by
  have oa : O a := hr.own i hi a e
  cases da with
  | lst xs =>
    obtain ⟨vs, hv, rs⟩ := ct
    cases dk with
    | int k =>
      cases rk
      obtain ⟨j, ej, rfl⟩ := Option.map_eq_some_iff.mp (show (ixn xs.length k).map (fun j => D.lst (xs.set j dv)) = some d' from es)
      obtain ⟨r2, k2⟩ := hr.setOwn (d := .lst (xs.set j dv)) (o := .lst (vs.set j vv)) hi e hv (.inl ⟨_, rfl⟩) (.inl ⟨_, rfl⟩) ⟨_, upd_same, rs.set rv j⟩
      exact .inl ⟨a, vs, k, j, rfl, rfl, hv, by rw [← rs.length]; exact ej, h _ r2 k2⟩
    | _ => simp [setD] at es
  | dic kvs =>
    obtain ⟨ks, hv, rs⟩ := ct
    have es : (if (keyD dk && decide (kvs.length < SZ)) = true then some (D.dic (dput kvs dk dv)) else none) = some d' := es
    split at es
    · rename_i hk
      cases es
      simp only [Bool.and_eq_true, decide_eq_true_eq] at hk
      obtain ⟨q, hq, rfl⟩ := key_of_rep hk.1 rk
      obtain ⟨r2, k2⟩ := hr.setOwn (d := .dic (dput kvs dk dv)) (o := .dK (putK ks q vv)) hi e hv (.inr ⟨_, rfl⟩) (.inr ⟨_, rfl⟩) ⟨_, upd_same, repK_put hq rv rs⟩
      exact .inr ⟨a, _, rfl, DPut.k hv (by rw [← repK_len rs]; exact hk.2), h _ r2 k2⟩
    · cases es
  | _ => exact ct.elim
theorem swapsS_no {e : Expr} {t : Expr} {n : Nat} {env : Env} (h : notLc e = true) : swapsWithSole [t] e n env = pure false := by
  cases e <;> first | rfl | (simp [notLc] at h)
theorem plain_sub {k : Expr} (h : notSl k = true) {o : Expr} {pos : Pos} {env : Env} : ∀ v, assign (.Subscript o k pos) env v = (do
      let ov ← holding [v] (eval o env)
      let iv ← holding [v, ov] (eval k env)
      standAt pos
      holding [v, ov, iv] (setItem ov iv v)
      release [v, ov, iv] []) := by
  intro v
  cases k <;> first | rfl | (simp [notSl] at h)
theorem ts_seti {o k e : Expr} {i : Nat} {kk ke : E} {l : Lv} {pos pos' : Pos} (hu : X.A.units + 1 < cLine) (hi : i ∈ c.own) (hs : notSl k = true) (hn : notLc e = true) (ho : PE X o (tVar i)) (hk : PE X k (TEe Z c W (tP Z) (ev kk l))) (he : PE X e (TEe Z c W (tP Z) (ev ke l)))
    (hw : swappedStores [.Subscript o k pos'] e X.env = pure none) : PS X (.Assign [.Subscript o k pos'] e pos) (TSe B Z c W (ex (.seti i kk ke) l)) :=
  (ps_asg he (pg_sub ho hk (set_both hu) (plain_sub hs)) (swapsS_no hn) hw rfl).weak fun D σ H ⟨O, σd, hr, j, g⟩ => by
    refine ⟨O, σd, hr, (GoS.go (r := ev ke l σd) hr j g).imp fun de σ1 H1 _ r1 k1 g ve re => ?_⟩
    have j1 := j.keepE k1
    obtain ⟨_, e0, g⟩ := (g r1 j1 k1).pure getS_ne
    obtain ⟨v, e1, q2, _⟩ := r1.slot i _ (getS_ok e0)
    obtain ⟨a, rfl, _⟩ := q2 hi
    refine ⟨_, e1, O, σ1, r1, (GoS.go (r := ev kk l σ1) r1 j1 (g.start (hr.le k1))).imp fun dk σ2 H2 _ r2 k2 g vk rk => ?_⟩
    have j2 := j1.keepE k2
    obtain ⟨da, ed, g⟩ := (g r2 j2 k2).pure getS_ne
    obtain ⟨d', es, g⟩ := g.opt
    obtain ⟨w, e2, q2', _⟩ := r2.slot i _ (getS_ok ed)
    obtain ⟨a', ea', ct⟩ := q2' hi
    have : a' = a := by rw [e1] at e2; rw [ea'] at e2; simpa using e2.symm
    subst this
    refine set_ok r2 hi e1 ct rk (re.le (r1.le k2)) es fun H3 r3 k3 => ?_
    exact GoS.done g r3 (j2.keepE k3) ((r1.le k2).trans (r2.le k3))
/-! ### while -/
theorem ts_while {t : Expr} {b : List Stmt} {kt : E} {kb : Ss} {l : Lv} {pos : Pos} (hp : PassesOwn (model X.prog X.w) X.A X.env X.xe) (ht : PT X t (TTe Z c W (testF kt l))) (hb : PSs X b (TSe B Z c W (exs kb l))) : PS X (.While t b [] pos) (TSe B Z c W (ex (.while kt kb) l)) :=
  (ps_while hp ht hb).weak fun D σ H ⟨O, σd, hr, j, g⟩ => by
    have g : GoS B Z c W (whGo (testF kt l) (fun σ => exs kb l σ) WF σd) O H D := g
    refine ⟨fun n σ H => ∃ O σd, RelS Z c O σd σ H ∧ J B c O σ H ∧ GoS B Z c W (whGo (testF kt l) (fun σ => exs kb l σ) n σd) O H D, ⟨WF, O, σd, hr, j, g⟩, ?_⟩
    rintro n σ H ⟨O, σd, hr, j, g⟩
    cases n with
    | zero => exact g.elim
    | succ n =>
      refine ⟨O, σd, hr, (GoS.go (r := testF kt l σd) hr j g).imp fun k σ1 H1 _ r1 k1 g => ?_⟩
      have j1 := j.keepE k1
      have g := (g r1 j1 k1).start (hr.le k1)
      cases k with
      | false => exact GoS.done (show GoS B Z c W (.ok (.nx, σ1)) O H1 D from g) r1 j1 (Le.refl _)
      | true =>
        refine ⟨_, fun σ' H' h => ⟨n, Nat.lt_succ_self n, h⟩, O, σ1, r1, j1, ?_⟩
        have g : GoS B Z c W ((exs kb l σ1).bind fun q => match q.1 with
          | .nx => whGo (testF kt l) (fun σ => exs kb l σ) n q.2
          | .ct => whGo (testF kt l) (fun σ => exs kb l σ) n q.2
          | .br => .ok (.nx, q.2)
          | .rt d => .ok (.rt d, q.2)) O H1 D := g
        cases hx : exs kb l σ1 with
        | ok q =>
          rw [hx] at g
          intro O' σ' H' r' j' l'
          obtain ⟨fl, σ2⟩ := q
          have l2 := l'
          cases fl with
          | nx => exact ⟨O', σ2, r', j', GoS.start g l2⟩
          | ct => exact ⟨O', σ2, r', j', GoS.start g l2⟩
          | br => exact g O' σ' H' r' j' l2
          | rt d => exact g O' σ' H' r' j' l2
        | exc k' => rw [hx] at g; exact g
        | bad => rw [hx] at g; exact g
/-! ### for -/
theorem ts_for {tg iter : Expr} {b : List Stmt} {t : T} {it : I} {kb : Ss} {l : Lv} {pos : Pos} (hB : BsOk Z B c) (hf : ∀ i ∈ slotsT t, FreeS c i) (hp : PassesOwn (model X.prog X.w) X.A X.env X.xe) (hc : X.calm = true) (hi : PI X tg iter (TIe Z c W (evi it l))) (hg : PG X tg (TGr Z c t)) (hb : PSs X b (TSe B Z c W (exs kb l)))
    (hs : ∀ x, foldedSetIterable iter X.env x = pure x) : PS X (.For tg iter b [] pos) (TSe B Z c W (ex (.for t it kb) l)) :=
  (ps_for hp hc hi hg hb hs).weak fun D σ H ⟨O, σd, hr, j, g⟩ => by
    refine ⟨O, σd, hr, (GoS.go (r := evi it l σd) hr j g).imp fun xs σ1 H1 _ r1 k1 g Jt wk => ?_⟩
    have j1 := j.keepE k1
    have g : GoS B Z c W (forGo (fun x σ => (asg t x σ).bind fun σ1 => exs kb l σ1) xs σ1) O H1 D := (g r1 j1 k1).start (hr.le k1)
    obtain ⟨G, Y, w, hG, hY⟩ := wk
    refine for_it w (fun i σ H => ∃ O' σd, RelS Z c O' σd σ H ∧ J B c O' σ H ∧ Le (hide H1 O) (hide H O') ∧ GoS B Z c W (forGo (fun x σ => (asg t x σ).bind fun σ1 => exs kb l σ1) (xs.drop i) σd) O' H D) ⟨O, σ1, r1, j1, Le.refl _, g⟩ ?_ ?_ ?_
    · rintro i σ' H' _ ⟨O', σ2, r2, j2, l2, _⟩
      exact hG _ _ l2
    · rintro i x σ' H2 H3 hi ⟨O', σ2, r2, j2, l2, g2⟩ y
      obtain ⟨l23, d, hd, rd⟩ := hY i H2 x H3 O' hi l2 ⟨r2.dom, r2.tab⟩ y
      have hdrop : xs.drop i = d :: xs.drop (i + 1) := by
        obtain ⟨h1, h2⟩ := List.getElem?_eq_some_iff.mp hd
        rw [List.drop_eq_getElem_cons h1, h2]
      rw [hdrop] at g2
      have r3 := r2.grow l23
      have g23 : Le (hide H2 O') (hide H3 O') := hide_mono fun a u e t n => ⟨l23 a u e, n⟩
      refine ⟨O', σ2, d, r3, rd, ?_⟩
      unfold TGo
      have g2 : GoS B Z c W (((asg t d σ2).bind fun σ1 => exs kb l σ1).bind fun q => match q.1 with
          | .nx => forGo (fun x σ => (asg t x σ).bind fun σ1 => exs kb l σ1) (xs.drop (i + 1)) q.2
          | .ct => forGo (fun x σ => (asg t x σ).bind fun σ1 => exs kb l σ1) (xs.drop (i + 1)) q.2
          | .br => .ok (.nx, q.2)
          | .rt d => .ok (.rt d, q.2)) O' H2 D := g2
      cases ha : asg t d σ2 with
      | exc q => exact asg_ne t _ _ _ ha
      | bad => rw [ha] at g2; exact g2
      | ok σ3 =>
        rw [ha] at g2
        have g2 : GoS B Z c W ((exs kb l σ3).bind fun q => match q.1 with
          | .nx => forGo (fun x σ => (asg t x σ).bind fun σ1 => exs kb l σ1) (xs.drop (i + 1)) q.2
          | .ct => forGo (fun x σ => (asg t x σ).bind fun σ1 => exs kb l σ1) (xs.drop (i + 1)) q.2
          | .br => .ok (.nx, q.2)
          | .rt d => .ok (.rt d, q.2)) O' H3 D := GoS.start g2 g23
        intro σ4 r4 sm
        have j4 : J B c O' σ4 H3 := (j2.keepE (KeepE.of_le l23)).same sm hf hB
        refine ⟨O', σ3, r4, j4, ?_⟩
        cases hx : exs kb l σ3 with
        | ok q =>
          rw [hx] at g2
          intro O5 σ5 H5 r5 j5 l5
          obtain ⟨fl, σ6⟩ := q
          have l25 := l5
          cases fl with
          | nx => exact ⟨O5, σ6, r5, j5, (l2.trans g23).trans l25, GoS.start g2 l25⟩
          | ct => exact ⟨O5, σ6, r5, j5, (l2.trans g23).trans l25, GoS.start g2 l25⟩
          | br => exact g2 O5 σ5 H5 r5 j5 l25
          | rt d => exact g2 O5 σ5 H5 r5 j5 l25
        | exc k' => rw [hx] at g2; exact g2
        | bad => rw [hx] at g2; exact g2
    · rintro σ' H' ⟨O', σ2, r2, j2, l2, g2⟩
      rw [List.drop_length] at g2
      exact GoS.done (show GoS B Z c W (.ok (.nx, σ2)) O' H' D from g2) r2 j2 (Le.refl _)
end
end BF

/-! Snd16 -/
set_option Elab.async false
set_option linter.all false
set_option maxRecDepth 100000
set_option maxHeartbeats 2000000
namespace BF
open PySem L2

section
variable {B : Bs} {Z : Wd} {c : Pl} {W : WX} {O O1 : Addr → Prop} {σ : L2.St} {σd : Sd} {H H' : Hp} {X : Cx} {N : Ends}
theorem ts_raise {e : Expr} {k : Nat} {l : Lv} {pos : Pos} (hc : X.calm = true) (tk : L2N.Takes X W) (he : L2N.PMk X e (fun _ H Q => Q (.ref (Z.cad k)) none H)) : PS X (.Raise (some e) none pos) (TSe B Z c W (ex (.raise k) l)) :=
  (L2N.ps_raise hc tk he).weak fun D σ H ⟨O, σd, hr, j, g⟩ => g O σ H (by rw [← hr.len]; exact hr.nones) j (Le.refl _)
/-! ### a, b = x, y -/
theorem reps2 {ds : List D} {vs : List V} {a b : D} (h : Reps Z H ds vs) (e : ds = [a, b]) : ∃ v w, vs = [v, w] ∧ Rep Z H a v ∧ Rep Z H b w := by
  subst e
  cases h with
  | cons h1 h2 => cases h2 with
    | cons h2 h3 => cases h3; exact ⟨_, _, rfl, h1, h2⟩
theorem reps3 {ds : List D} {vs : List V} {a b d : D} (h : Reps Z H ds vs) (e : ds = [a, b, d]) : ∃ v w u, vs = [v, w, u] ∧ Rep Z H a v ∧ Rep Z H b w ∧ Rep Z H d u := by
  subst e
  cases h with
  | cons h1 h2 => cases h2 with
    | cons h2 h3 => cases h3 with
      | cons h3 h4 => cases h4; exact ⟨_, _, _, rfl, h1, h2, h3⟩
theorem setAll_ne : ∀ (is : List (Nat × Bool)) (ds : List D) (σ : Sd) (k : Nat), setAll is ds σ ≠ .exc k
  | [], [], σ, k => by simp [setAll]
  | [], _ :: _, σ, k => by simp [setAll]
  | _ :: _, [], σ, k => by simp [setAll]
  | i :: is, d :: ds, σ, k => by
    unfold setAll
    split
    · simp
    · exact setAll_ne is ds _ k
theorem ts_par2 {i j : Nat} {es : List Expr} {ks : Es} {l : Lv} {s : Stmt} (hB : BsOk Z B c) (fi : FreeS c i) (fj : FreeS c j) (h : ∀ ta, PA X es ta → PS X s (tPar i j ta)) (ha : PA X es (TAe Z c W (evs ks l))) : PS X s (TSe B Z c W (ex (.par [(i, false), (j, false)] ks) l)) :=
  (h _ ha).weak fun D σ H ⟨O, σd, hr, jj, g⟩ => by
    obtain ⟨_, g⟩ := GoS.iff (show GoS B Z c W (if parOk (frOf l.tb) [(i, false), (j, false)] ks = true then (evs ks l σd).bind fun p => (setAll [(i, false), (j, false)] p.1 p.2).bind fun σ' => .ok (.nx, σ') else .bad) O H D from g)
    refine ⟨O, σd, hr, (GoS.go (r := evs ks l σd) hr jj g).imp fun ds σ1 H1 _ r1 k1 g vs rs => ?_⟩
    have j1 := jj.keepE k1
    obtain ⟨σ2, e2, g⟩ := (g r1 j1 k1).pure (setAll_ne _ _ _)
    match ds, e2, rs with
    | [a, b], e2, rs =>
      obtain ⟨v, w, rfl, ra, rb⟩ := reps2 rs rfl
      simp only [setAll, Bool.false_and, Bool.false_eq_true, if_false] at e2
      cases e2
      refine ⟨v, w, rfl, ?_⟩
      have r2 := (r1.setP fi ra).setP fj rb
      have sm : SameS [i, j] σ ((σ.set i (some v)).set j (some w)) := (SameS.set (by simp)).trans (SameS.set (by simp))
      refine GoS.done g r2 (j1.same sm (fun v hv => ?_) hB) (hr.le k1)
      rcases List.mem_cons.mp hv with rfl | hv
      · exact fi
      · rw [List.mem_singleton.mp hv]; exact fj
    | [], e2, _ => simp [setAll] at e2
    | [_], e2, _ => simp [setAll] at e2
    | _ :: _ :: _ :: _, e2, _ => simp [setAll] at e2
theorem ts_par3 {i j m : Nat} {es : List Expr} {ks : Es} {l : Lv} {s : Stmt} (hB : BsOk Z B c) (fi : FreeS c i) (fj : FreeS c j) (fm : FreeS c m) (h : ∀ ta, PA X es ta → PS X s (tPar3 i j m ta)) (ha : PA X es (TAe Z c W (evs ks l))) : PS X s (TSe B Z c W (ex (.par [(i, false), (j, false), (m, false)] ks) l)) :=
  (h _ ha).weak fun D σ H ⟨O, σd, hr, jj, g⟩ => by
    obtain ⟨_, g⟩ := GoS.iff (show GoS B Z c W (if parOk (frOf l.tb) [(i, false), (j, false), (m, false)] ks = true then (evs ks l σd).bind fun p => (setAll [(i, false), (j, false), (m, false)] p.1 p.2).bind fun σ' => .ok (.nx, σ') else .bad) O H D from g)
    refine ⟨O, σd, hr, (GoS.go (r := evs ks l σd) hr jj g).imp fun ds σ1 H1 _ r1 k1 g vs rs => ?_⟩
    have j1 := jj.keepE k1
    obtain ⟨σ2, e2, g⟩ := (g r1 j1 k1).pure (setAll_ne _ _ _)
    match ds, e2, rs with
    | [a, b, d], e2, rs =>
      obtain ⟨v, w, u, rfl, ra, rb, rd⟩ := reps3 rs rfl
      simp only [setAll, Bool.false_and, Bool.false_eq_true, if_false] at e2
      cases e2
      refine ⟨v, w, u, rfl, ?_⟩
      have r2 := ((r1.setP fi ra).setP fj rb).setP fm rd
      have sm : SameS [i, j, m] σ (((σ.set i (some v)).set j (some w)).set m (some u)) := ((SameS.set (by simp)).trans (SameS.set (by simp))).trans (SameS.set (by simp))
      refine GoS.done g r2 (j1.same sm (fun v hv => ?_) hB) (hr.le k1)
      rcases List.mem_cons.mp hv with rfl | hv
      · exact fi
      · rcases List.mem_cons.mp hv with rfl | hv
        · exact fj
        · rw [List.mem_singleton.mp hv]; exact fm
    | [], e2, _ => simp [setAll] at e2
    | [_], e2, _ => simp [setAll] at e2
    | [_, _], e2, _ => simp [setAll] at e2
    | _ :: _ :: _ :: _ :: _, e2, _ => simp [setAll] at e2
/-! ### try -/
theorem J.conv {c' : Pl} (j : J B c O σ H) (e : c'.own = c.own) : J B c' O σ H := ⟨j.sub, j.new, j.keep, fun i hi => j.own i (by rw [← e]; exact hi), j.ms, j.len, j.hd⟩
def holdC (c : Pl) (i : Nat) (a : Addr) : Pl := { c with hold := some (i, .ref a) }
theorem RelS.setHold (r : RelS Z c O (List.replicate σ.length none) σ H) {i : Nat} (f : FreeS c i) (hi : i < σ.length) (a : Addr) : RelS Z (holdC c i a) O (List.replicate σ.length none) (σ.set i (some (.ref a))) H := by
  obtain ⟨f1, f2, f3⟩ := f
  refine ⟨by simp, r.dom, r.tab, fun j hj b e => ?_, fun j hj k hk b e e' => ?_, fun j d' e => ?_, fun j w hw => ?_⟩
  · have ne : i ≠ j := fun z => f1 (z ▸ hj)
    rw [List.getElem?_set_ne ne] at e
    exact r.own j hj b e
  · have ne : i ≠ j := fun z => f1 (z ▸ hj)
    have ne' : i ≠ k := fun z => f1 (z ▸ hk)
    rw [List.getElem?_set_ne ne] at e
    rw [List.getElem?_set_ne ne'] at e'
    exact r.inj j hj k hk b e e'
  · rw [List.getElem?_replicate] at e
    split at e <;> simp at e
  · have hw : some (i, V.ref a) = some (j, w) := hw
    cases hw
    rw [List.getElem?_set_self hi]
theorem RelS.dropHold {a : Addr} {i : Nat} (r : RelS Z (holdC c i a) O σd σ H) (h0 : c.hold = none) (f : FreeS c i) : RelS Z c O (σd.set i none) (σ.set i none) H := by
  have r2 : RelS Z c O σd σ H := ⟨r.len, r.dom, r.tab, r.own, r.inj, r.slot, fun j w hw => by rw [h0] at hw; cases hw⟩
  exact r2.setN f
theorem getAll_set {i : Nat} {x : Option D} {σ : Sd} : ∀ {is : List Nat}, i ∉ is → getAll (σ.set i x) is = getAll σ is
  | [], _ => rfl
  | k :: is, h => by
    have ne : i ≠ k := fun z => h (z ▸ List.mem_cons_self)
    have e : getS (σ.set i x) k = getS σ k := by unfold getS; rw [List.getElem?_set_ne ne]
    unfold getAll
    rw [e, getAll_set fun z => h (List.mem_cons_of_mem _ z)]
def tryAs (B : Bs) (Z : Wd) (c : Pl) (kh : Ss) (l : Lv) (i : Nat) : Addr → Value → Option Addr → TS := fun a cls d D σ H => ∃ k, cls = .ref (Z.cad k) ∧ d = none ∧ TSe B Z (holdC c i a) W0 (exs kh { l with hld := some k }) D σ H
theorem ts_try_as {x n : Str} {i k : Nat} {body suite : List Stmt} {b0 : Stmt} {kb kh : Ss} {l : Lv} {np pos pos' : Pos} (hB : BsOk Z B c) (h0 : c.hold = none) (hK : X.K = Z.K) (fi : FreeS c i)
    (hs : X.stack = X.env :: X.outer) (hf : X.env.frame = some X.env.locals) (hN : X.N.Nodup) (hi : X.N[i]? = some n) (hln : X.env.kindOf n = some .local) (hc : Names X x (.ref (Z.cad k))) (tk : L2N.Takes X W)
    (hsub : ∀ k', PySem.W.exmOne Z.K (.ref (Z.cad k')) (.ref (Z.cad k)) = some (l.sub k' k))
    (hb : ∀ (W : WX) (pn : List (Addr × Obj)) (xe : Value → Shared → Prop), L2N.Takes (X.tr pn xe) W → PassesOwn (model X.prog X.w) X.A X.env xe → PSs (X.tr pn xe) body (TSe B Z c W (exs kb l)))
    (hsu : ∀ (k' : Nat) (a : Addr) (oe : Obj) (pn : List (Addr × Obj)), L2N.Zn (.ref (Z.cad k')) none oe → (∃ vs, oe.data = .fields vs) → PSs (X.suite a ((a, oe) :: pn)) (b0 :: suite) (TSe B Z (holdC c i a) W0 (exs kh { l with hld := some k' })))
    (len : B.n = X.N.length) :
    PS X (.Try body [.ExceptHandler (some (.Name x np)) (some n) (b0 :: suite) pos'] [] [] pos) (TSe B Z c W (ex (.tryx kb k (some i) kh) l)) :=
  (L2N.ps_try_as (ts := tryAs B Z c kh l i) hs hf hN hi hln hc tk hb fun a oe cls d pn hz hv => ⟨fun pins s σ H D I ⟨k', ek, ed, q⟩ => by
    subst ek ed
    exact (hsu k' a oe pn hz hv).run pins s σ H D I q⟩).weak fun D σ H ⟨O, σd, hr, j, g⟩ => by
    refine ⟨O, σd, hr, j, ?_⟩
    have g : GoS B Z c W (if l.hld.isSome then .bad else match exs kb l σd with
      | .ok q => .ok q
      | .exc c' => if l.sub c' k then (match exs kh { l with hld := some c' } (List.replicate σd.length none) with
        | .ok q => .ok (q.1, q.2.set i none)
        | _ => .bad) else .exc c'
      | .bad => .bad) O H D := g
    split at g
    · exact g.elim
    · cases hx : exs kb l σd with
      | ok q => rw [hx] at g; exact g
      | bad => rw [hx] at g; exact g
      | exc k' =>
        rw [hx] at g
        intro O' σ' H' r' j' le'
        refine ⟨l.sub k' k, by rw [hK]; exact hsub k', fun hb a ha => ?_, fun hb => ?_⟩
        · have g : GoS B Z c W (if l.sub k' k = true then (match exs kh { l with hld := some k' } (List.replicate σd.length none) with
            | .ok q => .ok (q.1, q.2.set i none)
            | _ => .bad) else .exc k') O H D := g
          rw [if_pos hb] at g
          have hl : σd.length = σ'.length := by rw [hr.len, j.len, j'.len]
          rw [hl] at g
          have hi' : i < σ'.length := by rw [j'.len, len]; exact (List.getElem?_eq_some_iff.mp hi).1
          have jh : J B (holdC c i a) O' (σ'.set i (some (.ref a))) H' := (j'.same (SameS.set (vs := [i]) (by simp)) (fun v hv => by rw [List.mem_singleton.mp hv]; exact fi) hB).conv rfl
          refine ⟨k', rfl, rfl, O', _, r'.setHold fi hi' a, jh, ?_⟩
          cases hh : exs kh { l with hld := some k' } (List.replicate σ'.length none) with
          | exc q => rw [hh] at g; exact g.elim
          | bad => rw [hh] at g; exact g.elim
          | ok q =>
            rw [hh] at g
            intro O5 σ5 H5 r5 j5 l5
            have r6 := r5.dropHold h0 fi
            have j6 : J B c O5 (σ5.set i none) H5 := (j5.conv (c' := c) rfl).same (SameS.set (vs := [i]) (by simp)) (fun v hv => by rw [List.mem_singleton.mp hv]; exact fi) hB
            have fin := g O5 (σ5.set i none) H5 r6 j6 (le'.trans l5)
            obtain ⟨fl, σ7⟩ := q
            cases fl with
            | nx => exact fin
            | br => exact fin
            | ct => exact fin
            | rt d =>
              intro v rv
              refine fin v ⟨rv.1, fun h1 h2 => ?_⟩
              obtain ⟨b, e1, e2, e3, e4⟩ := rv.2 h1 h2
              exact ⟨b, e1, e2, e3, fun xs ex => e4 xs (by rw [← getAll_set fun z => fi.1 (hB.ms i z)]; exact ex)⟩
        · have g : GoS B Z c W (if l.sub k' k = true then (match exs kh { l with hld := some k' } (List.replicate σd.length none) with
            | .ok q => .ok (q.1, q.2.set i none)
            | _ => .bad) else .exc k') O H D := g
          rw [if_neg (by rw [hb]; decide)] at g
          exact g O' σ' H' r' j' le'
end
end BF

/-! Snd17 -/
set_option Elab.async false
set_option linter.all false
set_option maxRecDepth 100000
set_option maxHeartbeats 2000000
namespace BF
open PySem L2

section
variable {Z : Wd} {c : Pl} {W : WX} {O O1 : Addr → Prop} {σ : L2.St} {σd : Sd} {H H' : Hp} {X : Cx}
theorem lastM {op op' : CmpOp} {b d : Expr} (h : behindInMarks op' d = false) : lastMarks [op, op'] [b, d] = false := h
theorem inMarks {op : CmpOp} {b : Expr} (h : notSet b = true) : behindInMarks op b = false := by
  cases b <;> first | rfl | (simp [notSet] at h)
/-- the reading of a chain, shared -/
theorem chain_red {o o' : Cm} {ka kb kd : E} {l : Lv} {a : Expr} {Q : VK} (hK : X.K = Z.K) (ha : Opd X Z c W l a ka) (hr : RelS Z c O σd σ H) (hg : Go Z c W (ev (.chain o o' ka kb kd) l σd) O σ H fun d _ H' => ∀ k, d = .bl k → Q (.bl k) H') :
    tChain (rCmp X.K o) (rCmp X.K o') (TKe Z c W ka (fun σ => BF.lent ka (ev ka l σ) σ)) (TEe Z c W (tP Z) (ev kb l)) (TEe Z c W (tL Z) (fun σ => BF.lent kd (ev kd l σ) σ)) σ H Q := by
  refine ⟨O, σd, hr, (Go.bind (r := BF.lent ka (ev ka l σd) σd) hg).imp fun da σ1 H1 _ r1 k1 g va tka => ⟨O, σ1, r1, (Go.bind (r := ev kb l σ1) g).imp fun db σ2 H2 _ r2 k2 g2 vb rb => ?_⟩⟩
  obtain ⟨x, ex, g3⟩ := g2.pure rr_ne
  obtain ⟨k, ek, g4⟩ := g3.opt
  refine cmp_ok hK r2 (rr_ok r2 ex (by have t := tK_keep r1 k2 tka; cases ka <;> exact t) ha.rvIn) (.inl rb) ek ⟨k, rfl, ?_⟩
  cases k with
  | false =>
    simp only [Bool.false_eq_true, if_false] at g4 ⊢
    exact g4.ok r2 KeepE.refl _ rfl
  | true =>
    simp only [if_true] at g4 ⊢
    refine ⟨O, σ2, r2, (Go.bind (r := BF.lent kd (ev kd l σ2) σ2) g4).imp fun dd σ3 H3 _ r3 k3 g5 vd rd => ?_⟩
    obtain ⟨k', ek', g6⟩ := g5.opt
    exact cmp_ok hK r3 (.inl (rb.le (r2.le k3))) rd ek' (g6.ok r3 KeepE.refl _ rfl)
theorem pe_of_chain {o o' : Cm} {a b d : Expr} {ka kb kd : E} {l : Lv} {pos : Pos} (hK : X.K = Z.K) (hu : X.A.units + 65 < cLine) (hm : notSet d = true) (ha : Opd X Z c W l a ka) (hb : PE X b (TEe Z c W (tP Z) (ev kb l))) (hd : Opd X Z c W l d kd) :
    PE X (.Compare a [mapCm o, mapCm o'] [b, d] pos) (TEe Z c W (tP Z) (ev (.chain o o' ka kb kd) l)) :=
  (pe_chain (opR_cmp hu o) (opR_cmp hu o') ha.kept hb hd.lent (lastM (inMarks hm))).weak fun σ H Q ⟨O, σd, h0, hg⟩ => chain_red hK ha h0 (hg.imp fun d σ1 H1 _ _ _ q k e => q _ (by rw [e]; exact .bl k))
theorem tt_of_chain {o o' : Cm} {a b d : Expr} {ka kb kd : E} {l : Lv} {pos : Pos} (hK : X.K = Z.K) (hu : X.A.units + 65 < cLine) (hm : notSet d = true) (ha : Opd X Z c W l a ka) (hb : PE X b (TEe Z c W (tP Z) (ev kb l))) (hd : Opd X Z c W l d kd) :
    PT X (.Compare a [mapCm o, mapCm o'] [b, d] pos) (TTe Z c W (testF (.chain o o' ka kb kd) l)) :=
  (pt_chain (opR_cmp hu o) (opR_cmp hu o') ha.kept hb hd.lent (lastM (inMarks hm))).weak fun σ H Q ⟨O, σd, h0, hg⟩ => by
    have hg : Go Z c W ((ev (.chain o o' ka kb kd) l σd).bind fun p => (R.ofO (tru p.1)).bind fun k => .ok (k, p.2)) O σ H fun k _ H' => Q k H' := hg
    refine chain_red hK ha h0 ((Go.bind hg).imp fun dd σ1 H1 _ r1 k1 g k e => ?_)
    subst e
    exact ⟨k, rfl, (show Go Z c W (.ok (k, σ1)) O σ H1 _ from g).ok r1 KeepE.refl⟩
theorem pe_of_iteF {t a b : Expr} {kt ka kb : E} {l : Lv} {pos : Pos} (ht : PT X t (TTe Z c W (testF kt l))) (ha : PE X a (TFe Z c W (ev ka l))) (hb : PE X b (TFe Z c W (ev kb l))) :
    PE X (.IfExp t a b pos) (TFe Z c W (ev (.ite kt ka kb) l)) :=
  (pe_ifExp ht ha hb).weak fun σ H Q ⟨O, σd, h0, hg⟩ => by
    have hg2 : Go Z c W ((testF kt l σd).bind fun p => if p.1 = true then ev ka l p.2 else ev kb l p.2) O σ H (KF Z c O σ H Q) := by
      have e : ev (.ite kt ka kb) l σd = (testF kt l σd).bind fun p => if p.1 = true then ev ka l p.2 else ev kb l p.2 := by
        show (BF.lent kt (ev kt l σd) σd).bind _ = _
        unfold testF
        cases BF.lent kt (ev kt l σd) σd with
        | ok q =>
          show (R.ofO (tru q.1)).bind _ = ((R.ofO (tru q.1)).bind fun b => R.ok (b, q.2)).bind _
          cases tru q.1 <;> rfl
        | exc _ => rfl
        | bad => rfl
      rw [← e]; exact hg
    refine ⟨O, σd, h0, (Go.bind hg2).imp fun k σ1 H1 _ r1 k1 g => ?_⟩
    have back : ∀ {r : R (D × Sd)}, Go Z c W r O σ H1 (KF Z c O σ H Q) → Go Z c W r O σ H1 (KF Z c O σ H1 Q) := fun {r} g => g.imp fun d σ2 H2 _ r2 k2 q v fr rv => q v (fun hc => by
      obtain ⟨a, e1, e2, e3, e4⟩ := fr hc
      exact ⟨a, e1, h0.back r1 k1 e2, e3, e4⟩) rv
    cases k with
    | true => exact ⟨O, σ1, r1, back g⟩
    | false => exact ⟨O, σ1, r1, back g⟩
end
end BF

/-! Snd18 -/
set_option Elab.async false
set_option linter.all false
set_option maxRecDepth 100000
set_option maxHeartbeats 2000000
namespace BF
open PySem L2

def bltN : List Str := ["len", "abs", "int", "list", "tuple", "all", "any", "sum", "sorted", "min", "max", "str", "bool", "isinstance", "range", "enumerate", "zip"]
/-- a class of errors -/
structure ExcF (X : Cx) (Z : Wd) (x : Str) (k : Nat) : Prop where
  mg : X.mg x = some (.ref (Z.cad k))
  keep : PySem.W.keepIn X.K (.ref (Z.cad k)) = true
  base : ∃ (bmB : List Value) (B newId initId : String), ExcBaseFacts B newId initId bmB ∧ PySem.W.excIn X.K (Z.cad k) bmB newId = true
  rs : Raises X (.ref (Z.cad k))
/-- what a lambda's making asks -/
def LamF (X : Cx) (Z : Wd) : Prop := ∃ cc P : Addr, LamX.TabB X.base X.mg cc P ∧ X.env.code = .ref cc ∧ (P, X.env.qual ++ "<lambda>") ∈ Z.T ∧ ∀ p ∈ Z.T, p.1 = P → p.2 = X.env.qual ++ "<lambda>"
/-- a def's places fit its parameters -/
def psOk (own bor : List Nat) : List Md → Nat → Bool
  | [], _ => true
  | m :: ps, i => (match m with
    | .s => !own.contains i && !bor.contains i
    | .b => !own.contains i && bor.contains i
    | .m => own.contains i) && psOk own bor ps (i + 1)
def fdOk (fd : Fd) (N : List Str) : Bool := fd.ns == N.length && decide (fd.ps.length ≤ N.length) && psOk fd.own fd.bor fd.ps 0
/-- the module's names, as the small form reads them -/
structure Gb (Z : Wd) (mg : Str → Option Value) (fns : List Str) (con : List (Str × D)) (excs : List Str) (sub : Nat → Nat → Bool) : Prop where
  fn_ : ∀ x i, slotGo x fns 0 = some i → mg x = some (.ref (Z.fad i))
  con_ : ∀ x d, slotGo x fns 0 = none → con.lookup x = some d → ∃ u v, mg x = some u ∧ RelV v u ∧ ∀ H, Rep Z H d v
  blt : ∀ x ∈ bltN, mg x = none
  exc : ∀ x i, slotGo x excs 0 = some i → mg x = some (.ref (Z.cad i)) ∧ PySem.W.keepIn Z.K (.ref (Z.cad i)) = true ∧
    (∃ (bmB : List Value) (B newId initId : String), ExcBaseFacts B newId initId bmB ∧ PySem.W.excIn Z.K (Z.cad i) bmB newId = true) ∧ PySem.W.subIn Z.K (.ref (Z.cad i)) (.type "BaseException") = some true ∧ PySem.W.typeIn Z.K (.ref (Z.cad i)) = some (.type "type")
  exm : ∀ x k, slotGo x excs 0 = some k → ∀ k', PySem.W.exmOne Z.K (.ref (Z.cad k')) (.ref (Z.cad k)) = some (sub k' k)
  exk : ∀ x k, slotGo x excs 0 = some k → ∀ k', PySem.W.kitOne Z.K (.ref (Z.cad k')) (.ref (Z.cad k)) = some (sub k' k)
  excC : ∀ k', ExcC Z.K (Z.cad k')
/-- where a def makes lambdas -/
def LamD (Z : Wd) (mg : Str → Option Value) (base : Heap) (cdv : Value) (qual : Str) : Prop := ∃ cc Pt : Addr, LamX.TabB base mg cc Pt ∧ cdv = .ref cc ∧ (Pt, qual ++ ".<locals>." ++ "<lambda>") ∈ Z.T ∧ ∀ p ∈ Z.T, p.1 = Pt → p.2 = qual ++ ".<locals>." ++ "<lambda>"
def tcOf (fns : List Str) (con : List (Str × D)) (excs : List Str) (lm : Bool) (N : List Str) (fd : Fd) (scope : Scope) : Tc := ⟨N, fd.own, fd.bor, fd.ps.length, fns, con, excs, scope, none, false, lm⟩
/-- a def of the table -/
structure DefOk (Z : Wd) (mg : Str → Option Value) (base : Heap) (fns : List Str) (con : List (Str × D)) (excs : List Str) (f : Nat) (fd : Fd) (lm : Bool) (name qual : Str) (params : Arguments) (body : List Stmt) (scope : Scope) (dV kV doc pm cdv ct oc : Value) (an od : Option Addr) (osl : Array (Option Value)) (N ps : List Str) : Prop where
  lk : Z.K.lookup (Z.fad f) = some ⟨oc, od, .func (PySem.W.fnOf name qual params body scope dV kV doc pm an cdv ct), osl⟩
  cd : PySem.W.codeIn Z.K cdv qual = true
  S : FnScope N ps scope
  len : ps.length = fd.ps.length
  ok : fdOk fd N = true
  tr : trFd fns con excs lm N fd body scope = fd.body
  bd : L2.Binds Z.K (PySem.W.fnOf name qual params body scope dV kV doc pm an cdv ct) ps []
  kp : PySem.W.keepIn Z.K (.ref (Z.fad f)) = true
  lam : lm = true → LamD Z mg base cdv qual
  hd : fd.hd = true → lm = false
def DefE (Z : Wd) (mg : Str → Option Value) (base : Heap) (fns : List Str) (con : List (Str × D)) (excs : List Str) (f : Nat) (fd : Fd) : Prop :=
  ∃ (lm : Bool) (name qual : Str) (params : Arguments) (body : List Stmt) (scope : Scope) (dV kV doc pm cdv ct oc : Value) (an od : Option Addr) (osl : Array (Option Value)) (N ps : List Str), DefOk Z mg base fns con excs f fd lm name qual params body scope dV kV doc pm cdv ct oc an od osl N ps
structure Ok (bb : Bool) (X : Cx) (Z : Wd) (tc : Tc) (l : Lv) (c : Pl) (W : WX) (k : Nat) : Prop where
  K : X.K = Z.K
  N : X.N = tc.N
  nd : tc.N.Nodup
  sc : X.env.scope = tc.sc
  own : c.own = tc.own
  bor : c.bor = tc.bor
  hold : ∀ i v, c.hold = some (i, v) → tc.hld = some i
  lown : l.own = tc.own
  tk : L2N.Takes X W
  un : X.A.units + 65 < cLine
  calm : tc.hld = none → X.calm = true ∧ Room k X.A ∧ l.hld = none
  hot : ∀ i, tc.hld = some i → tc.hx = true → L2H.HotC X ∧ ∃ a k', c.hold = some (i, .ref a) ∧ l.hld = some k' ∧ CallR X (.builtin "isinstance") (rIsE X.K (Z.cad k') a) ∧ ∀ y j, slotGo y tc.excs 0 = some j → PySem.W.kitOne X.K (.ref (Z.cad k')) (.ref (Z.cad j)) = some (l.sub k' j)
  fns : ∀ x i, slotGo x tc.fns 0 = some i → X.mg x = some (.ref (Z.fad i))
  con : ∀ x d, slotGo x tc.fns 0 = none → tc.con.lookup x = some d → ∃ u v, X.mg x = some u ∧ RelV v u ∧ ∀ H, Rep Z H d v
  blt : ∀ x ∈ bltN, X.mg x = none
  exc : ∀ x i, slotGo x tc.excs 0 = some i → ExcF X Z x i
  call : ∀ f fd, l.tb[f]? = some fd → FnIn X Z k f fd (l.F f)
  call2 : ∀ F, l.F2 = some F → ∃ k2, k2 + 2 ≤ k ∧ ∀ f fd, l.tb[f]? = some fd → FnIn X Z k2 f fd (F f)
  lam : tc.lm = true → LamF X Z
  lb : tc.lm = true → bb = true
  gb : Gb Z X.mg tc.fns tc.con tc.excs Z.sub
  defs : ∀ f fd, Z.tb[f]? = some fd → DefE Z X.mg X.base tc.fns tc.con tc.excs f fd
  hd : ∀ F, l.F2 = some F → l.Hd = runHd Z.tb Z.sub ∧ l.tb = Z.tb ∧ l.sub = Z.sub
theorem takesN0 {X : Cx} : L2N.Takes X (fun _ _ _ _ => False) := fun u s' h => by
  obtain ⟨_, _, _, _, _, _, _, _, _, _, _, _, _, _, _, _, q⟩ := h
  exact q.elim
section
variable {bb : Bool} {X : Cx} {Z : Wd} {tc : Tc} {l : Lv} {c : Pl} {W : WX} {k : Nat}
theorem slotGo_at : ∀ {N : List Str} {x : Str} {n i : Nat}, slotGo x N n = some i → ∃ j, i = n + j ∧ N[j]? = some x
  | [], _, _, _, h => by simp [slotGo] at h
  | y :: r, x, n, i, h => by
    unfold slotGo at h
    split at h
    · rename_i e
      cases h
      exact ⟨0, rfl, by simp [e]⟩
    · obtain ⟨j, e, q⟩ := slotGo_at h
      exact ⟨j + 1, by omega, by simpa using q⟩
theorem slot_at {N : List Str} {x : Str} {i : Nat} (h : slotGo x N 0 = some i) : N[i]? = some x := by
  obtain ⟨j, e, q⟩ := slotGo_at h
  have : i = j := by omega
  rw [this]; exact q
theorem okNm_1 {x : Str} (h : okNm x = true) : (x == ("__debug__" : Str)) = false ∧ (x == ("__classdict__" : Str)) = false := by
  unfold okNm at h
  simp only [Bool.and_eq_true, Bool.not_eq_true'] at h
  exact h
theorem vis_1 {sc : Scope} {x : Str} (h : (match sc.names.lookup x with | some .local => true | some .cell => true | some .free => true | _ => false) = true) : Vis sc x := by
  split at h
  · rename_i e; exact .inl e
  · rename_i e; exact .inr (.inl e)
  · rename_i e; exact .inr (.inr e)
  · cases h
theorem Ok.vis (o : Ok bb X Z tc l c W k) {x : Str} (h : tc.vis x = true) : Vis X.env.scope x := by rw [o.sc]; exact vis_1 h
theorem Ok.gl (o : Ok bb X Z tc l c W k) {x : Str} (h : tc.glob x = true) : Gl X x := by
  show X.env.scope.names.lookup x = _
  rw [o.sc]
  unfold Tc.glob at h
  split at h
  · assumption
  · cases h
theorem Ok.at_ (o : Ok bb X Z tc l c W k) {x : Str} {i : Nat} (h : tc.slot x = some i) : X.N[i]? = some x := by rw [o.N]; exact slot_at h
theorem Ok.var (o : Ok bb X Z tc l c W k) {x : Str} {i : Nat} {p : Pos} (hn : okNm x = true) (hv : tc.vis x = true) (h : tc.slot x = some i) : PE X (.Name x p) (tVar i) := pe_var (o.at_ h) (o.vis hv) (okNm_1 hn).1 (okNm_1 hn).2
theorem res_no {i : Nat} (h : tc.res i = false) (o : Ok bb X Z tc l c W k) : FreeS c i := by
  unfold Tc.res at h
  simp only [Bool.or_eq_false_iff] at h
  obtain ⟨⟨h1, h2⟩, h3⟩ := h
  refine ⟨fun z => ?_, fun z => ?_, fun v z => ?_⟩
  · rw [o.own] at z
    have : tc.own.contains i = true := List.contains_iff_mem.mpr z
    rw [h1] at this; cases this
  · rw [o.bor] at z
    have : tc.bor.contains i = true := List.contains_iff_mem.mpr z
    rw [h2] at this; cases this
  · have := o.hold i v z
    rw [this] at h3; simp at h3
theorem res_yes {i : Nat} (h : tc.res i = true) (hh : ¬ tc.hld = some i) (o : Ok bb X Z tc l c W k) : i ∈ c.own ∨ i ∈ c.bor := by
  unfold Tc.res at h
  simp only [Bool.or_eq_true] at h
  rcases h with (h | h) | h
  · exact .inl (by rw [o.own]; exact List.contains_iff_mem.mp h)
  · exact .inr (by rw [o.bor]; exact List.contains_iff_mem.mp h)
  · exact absurd (by simpa using h) hh
/-! ### names -/
theorem pe_bad {e : Expr} {P : (Addr → Prop) → Tl} {f : Sd → R (D × Sd)} (h : ∀ σ, f σ = .bad) : PE X e (TEe Z c W P f) := .none (TEe.bad h)
theorem pf_bad {e : Expr} {f : Sd → R (D × Sd)} (h : ∀ σ, f σ = .bad) : PE X e (TFe Z c W f) := .none fun σ H Q ⟨O, σd, _, q⟩ => by rw [h] at q; exact q
theorem pt_bad {e : Expr} {f : Sd → R (Bool × Sd)} (h : ∀ σ, f σ = .bad) : PT X e (TTe Z c W f) := .none fun σ H Q ⟨O, σd, _, q⟩ => by rw [h] at q; exact q
theorem o_name (o : Ok bb X Z tc l c W k) (x : Str) (p : Pos) : Opd X Z c W l (.Name x p) (trName tc x) := by
  unfold trName
  by_cases hn : okNm x = true
  · rw [if_pos hn]
    by_cases hv : tc.vis x = true
    · rw [if_pos hv]
      cases hs : tc.slot x with
      | none => exact ⟨.inl ⟨rfl, pe_bad fun _ => rfl⟩⟩
      | some i =>
        dsimp only
        by_cases hh : tc.hld = some i
        · rw [if_pos hh]; exact ⟨.inl ⟨rfl, pe_bad fun _ => rfl⟩⟩
        · rw [if_neg hh]
          cases hr : tc.res i with
          | true => exact ⟨.inr ⟨i, rfl, o.var hn hv hs, res_yes hr hh o⟩⟩
          | false =>
            obtain ⟨f1, f2, _⟩ := res_no hr o
            exact ⟨.inl ⟨rfl, s_var (o.var hn hv hs) f1 f2⟩⟩
    · rw [if_neg hv]
      by_cases hg : tc.glob x = true
      · rw [if_pos hg]
        cases hf : slotGo x tc.fns 0 with
        | some f => exact ⟨.inl ⟨rfl, s_fn (pe_glob (o.gl hg) (o.fns x f hf) rfl (okNm_1 hn).1)⟩⟩
        | none =>
          dsimp only
          cases hc : tc.con.lookup x with
          | none => exact ⟨.inl ⟨rfl, pe_bad fun _ => rfl⟩⟩
          | some d =>
            obtain ⟨u, v, h1, h2, h3⟩ := o.con x d hf hc
            exact ⟨.inl ⟨rfl, s_cst (pe_glob (o.gl hg) h1 h2 (okNm_1 hn).1) h3⟩⟩
      · rw [if_neg hg]; exact ⟨.inl ⟨rfl, pe_bad fun _ => rfl⟩⟩
  · rw [if_neg hn]; exact ⟨.inl ⟨rfl, pe_bad fun _ => rfl⟩⟩
/-- a plain operand, read plainly: a restricted name is bad -/
theorem Opd.pe {e : Expr} {kk : E} (h : Opd X Z c W l e kk) : PE X e (TEe Z c W (tP Z) (ev kk l)) := by
  rcases h.at_ with ⟨_, h⟩ | ⟨i, rfl, _⟩
  · exact h
  · exact pe_bad fun _ => rfl
theorem Opd.of {e : Expr} {kk : E} (n : isRv kk = false) (h : PE X e (TEe Z c W (tP Z) (ev kk l))) : Opd X Z c W l e kk := ⟨.inl ⟨n, h⟩⟩
end
end BF

/-! Snd19 -/
set_option Elab.async false
set_option linter.all false
set_option maxRecDepth 100000
set_option maxHeartbeats 4000000
namespace BF
open PySem L2

/-- lambdas, by any soundness of their bodies -/
def LamH (bb : Bool) (Z : Wd) : Prop := ∀ {X : Cx} {tc : Tc} {l : Lv} {c : Pl} {W : WX} {k : Nat}, Ok bb X Z tc l c W k → tc.hld = none → ∀ {x : Str} {f : Nat} {ps : Arguments} {b : Expr} {sc : Scope} {lpos p pos : Pos} {kb : E}, okNm x = true → tc.glob x = true → slotGo x tc.fns 0 = some f → tc.lm = true → noArgs ps = true → LamX.lamSB tc.sc sc = true →
  (∀ {X' : Cx} {l' : Lv} {c' : Pl} {W' : WX} {k' : Nat}, Ok bb X' Z { tc with sc := sc, own := [], bor := tc.own ++ tc.bor, hld := none, hx := false, lm := false } l' c' W' k' → PE X' b (TEe Z c' W' (tP Z) (ev kb l'))) →
  PE X (.Call (.Name x p) [.Lambda ps b sc lpos] [] pos) (TEe Z c W (tP Z) (ev (.lam f kb) l))
/-- comprehensions within a suite -/
def HotH (bb : Bool) (Z : Wd) : Prop := ∀ {X : Cx} {tc : Tc} {l : Lv} {c : Pl} {W : WX} {k i : Nat}, Ok bb X Z tc l c W k → tc.hld = some i → tc.hx = true → ∀ {elt tg iter : Expr} {ifs : List Expr} {scope : Scope} {own : List (Str × Nat)} {pos : Pos} {ke kv : E} {t : T} {cc : Eo}, BlkOk X.N X.env.scope scope own → (∀ v ∈ own.map (·.2), FreeS c v) → (∀ i ∈ slotsT t, i ∈ own.map (·.2)) →
  PE X iter (TEe Z c W (tP Z) (ev kv l)) → flatT t = true → (∀ q ∈ own, ∃ kk, (q.1, kk) ∈ scope.names ∧ (kk = .local ∨ kk = .cell)) →
  ∀ {m : Nat}, trT m { tc with sc := relS scope tc.sc, hx := false } tg = some t →
  (∀ {X' : Cx} {l' : Lv} {c' : Pl} {W' : WX} {k' : Nat}, Ok bb X' Z { tc with sc := relS scope tc.sc, hx := false } l' c' W' k' → PE X' elt (TEe Z c' W' (tP Z) (ev ke l'))) →
  (∀ {X' : Cx} {l' : Lv} {c' : Pl} {W' : WX} {k' : Nat}, Ok bb X' Z { tc with sc := relS scope tc.sc, hx := false } l' c' W' k' → PTs X' ifs (TTe Z c' W' (evc cc l'))) →
  (∀ x, foldedSetIterable iter X.env x = pure x) → PE X (.ListComp elt [⟨tg, iter, ifs, 0⟩] scope pos) (TFe Z c W (ev (.lc (own.map (·.2)) ke t (.lst kv) cc) l))
section
variable {bb : Bool} {X : Cx} {Z : Wd} {tc : Tc} {l : Lv} {c : Pl} {W : WX} {k : Nat}
structure SE (bb : Bool) (Z : Wd) (n : Nat) : Prop where
  o : ∀ {X : Cx} {tc : Tc} {l : Lv} {c : Pl} {W : WX} {k : Nat}, Ok bb X Z tc l c W k → ∀ e, Opd X Z c W l e (tr n tc e)
  f : ∀ {X : Cx} {tc : Tc} {l : Lv} {c : Pl} {W : WX} {k : Nat}, Ok bb X Z tc l c W k → ∀ e, freshE (frOf l.tb) (tr n tc e) = true → PE X e (TFe Z c W (ev (tr n tc e) l))
  t : ∀ {X : Cx} {tc : Tc} {l : Lv} {c : Pl} {W : WX} {k : Nat}, Ok bb X Z tc l c W k → ∀ e, PT X e (TTe Z c W (testF (tr n tc e) l))
  es : ∀ {X : Cx} {tc : Tc} {l : Lv} {c : Pl} {W : WX} {k : Nat}, Ok bb X Z tc l c W k → ∀ es, PA X es (TAe Z c W (evs (trs n tc es) l))
  bs : ∀ {X : Cx} {tc : Tc} {l : Lv} {c : Pl} {W : WX} {k : Nat}, Ok bb X Z tc l c W k → ∀ es, es.all notStar = true → Oas X Z c W l es (trs n tc es)
  bz : ∀ {tc : Tc} {l : Lv}, trs n tc [] = .nil ∨ ∀ σ, evbs (trs n tc []) l σ = .bad
  iv : ∀ {X : Cx} {tc : Tc} {l : Lv} {c : Pl} {W : WX} {k : Nat}, Ok bb X Z tc l c W k → ∀ (e : Expr) (kv : E), trI n tc e = .lst kv → PE X e (TEe Z c W (tP Z) (ev kv l))
  oo : ∀ {X : Cx} {tc : Tc} {l : Lv} {c : Pl} {W : WX} {k : Nat}, Ok bb X Z tc l c W k → ∀ e, PO X e (TOe Z c W (evo (trO n tc e) l))
  b : ∀ {X : Cx} {tc : Tc} {l : Lv} {c : Pl} {W : WX} {k : Nat}, Ok bb X Z tc l c W k → ∀ op vs pos, Opd X Z c W l (.BoolOp op vs pos) (trB n tc op vs) ∧ PW X (.BoolOp op vs pos) (TTe Z c W (testF (trB n tc op vs) l)) ∧ (freshE (frOf l.tb) (trB n tc op vs) = true → PE X (.BoolOp op vs pos) (TFe Z c W (ev (trB n tc op vs) l)))
  c : ∀ {X : Cx} {tc : Tc} {l : Lv} {c : Pl} {W : WX} {k : Nat}, Ok bb X Z tc l c W k → ∀ x as p pos, Opd X Z c W l (.Call (.Name x p) as [] pos) (trCall n tc x as) ∧ (freshE (frOf l.tb) (trCall n tc x as) = true → PE X (.Call (.Name x p) as [] pos) (TFe Z c W (ev (trCall n tc x as) l)))
  m : ∀ {X : Cx} {tc : Tc} {l : Lv} {c : Pl} {W : WX} {k : Nat}, Ok bb X Z tc l c W k → ∀ o m as ap pos, (ap.endLine == pos.line) = true → Opd X Z c W l (.Call (.Attribute o m ap) as [] pos) (trMeth n tc o m as) ∧ freshE (frOf l.tb) (trMeth n tc o m as) = false
  i : ∀ {X : Cx} {tc : Tc} {l : Lv} {c : Pl} {W : WX} {k : Nat}, Ok bb X Z tc l c W k → ∀ {m : Nat} {tc' : Tc} {tg : Expr} {tt : T} {h : Bool} (e : Expr), trT m tc' tg = some tt → fitI h (trI n tc e) tt = true → PI X tg e (TIe Z c W (evi (trI n tc e) l))
theorem opd_bad {e : Expr} : Opd X Z c W l e .bad := .of rfl (pe_bad fun _ => rfl)
theorem testF_bad {σ : Sd} : testF .bad l σ = .bad := rfl
theorem pi_bad {tg e : Expr} {f : Sd → R (List D × Sd)} (h : ∀ σ, f σ = .bad) : PI X tg e (TIe Z c W f) := .none fun σ H R ⟨O, σd, _, q⟩ => by rw [h] at q; exact q
theorem se_zero : SE bb Z 0 where
  o := fun _ _ => opd_bad
  f := fun _ _ h => by cases h
  t := fun _ _ => pt_bad fun _ => rfl
  es := fun _ _ => .none fun σ H Q ⟨O, σd, _, q⟩ => q
  bs := fun _ _ _ => ⟨.none fun σ H Q ⟨O, σd, _, q⟩ => q, ⟨fun _ h => (by cases h), trivial⟩⟩
  bz := .inr fun _ => rfl
  iv := fun _ _ _ h => by cases h
  oo := fun _ _ => ⟨fun pins s σ H Q I ⟨O, σd, _, q⟩ => q.elim⟩
  b := fun _ _ _ _ => ⟨opd_bad, ⟨fun _ pins s σ H Q I ⟨O, σd, _, q⟩ => q.elim⟩, fun h => by cases h⟩
  c := fun _ _ _ _ _ => ⟨opd_bad, fun h => by cases h⟩
  m := fun _ _ _ _ _ _ _ => ⟨opd_bad, rfl⟩
  i := by intros; exact pi_bad fun _ => rfl
end
end BF

/-! Snd20 -/
set_option Elab.async false
set_option linter.all false
set_option maxRecDepth 100000
set_option maxHeartbeats 4000000
namespace BF
open PySem L2

section
variable {bb : Bool} {X : Cx} {Z : Wd} {tc : Tc} {l : Lv} {c : Pl} {W : WX} {k n : Nat}
theorem Ok.blk (o : Ok bb X Z tc l c W k) (hh : tc.hld = none) (a : Addr) (s : Shared) (H : Hp) (scope : Scope) (C : Addr) (cl : List (Str × Addr)) (fp : List Addr) : Ok bb (X.blk s H scope (compEnvC scope cl C X.env) fp) Z { tc with sc := relS scope tc.sc, hx := false } (noTh l) (lk c a) W0 k where
  K := o.K
  N := o.N
  nd := o.nd
  sc := by show relS scope X.env.scope = relS scope tc.sc; rw [o.sc]
  own := o.own
  bor := o.bor
  hold := o.hold
  lown := o.lown
  tk := takesN0
  un := o.un
  calm := fun h => o.calm h
  hot := fun i _ h => nomatch h
  fns := o.fns
  con := o.con
  blt := o.blt
  exc := fun x i h => let q := o.exc x i h; ⟨q.mg, q.keep, q.base, q.rs⟩
  call := fun f fd h => ⟨(o.call f fd h).ex⟩
  call2 := fun F h => let ⟨k2, h1, h2⟩ := o.call2 F h; ⟨k2, h1, fun f fd q => ⟨(h2 f fd q).ex⟩⟩
  lam := o.lam
  lb := o.lb
  gb := o.gb
  defs := o.defs
  hd := o.hd
theorem mem_ownOf {N : List Str} : ∀ {ns : List (Str × NameKind)} {p : Str × Nat}, p ∈ ownOf N ns → ∃ k, (p.1, k) ∈ ns ∧ (k = .local ∨ k = .cell)
  | [], _, h => by simp [ownOf] at h
  | (x, k) :: r, p, h => by
    have rec_ : p ∈ ownOf N r → ∃ k', (p.1, k') ∈ (x, k) :: r ∧ (k' = .local ∨ k' = .cell) := fun h => by
      obtain ⟨k', h1, h2⟩ := mem_ownOf h
      exact ⟨k', List.mem_cons_of_mem _ h1, h2⟩
    unfold ownOf at h
    cases k <;> dsimp only at h <;> first | exact rec_ h | skip
    all_goals
      cases hs : slotGo x N 0 with
      | none => rw [hs] at h; exact rec_ h
      | some i =>
        rw [hs] at h
        rcases List.mem_cons.mp h with rfl | h
        · exact ⟨_, List.mem_cons_self, by simp⟩
        · exact rec_ h
/-! ### targets -/
/-- where a target may be stored -/
def StOk (X : Cx) (S : List Nat) : Prop := ∀ x i, X.N[i]? = some x → i ∈ S → Loc X.env.scope x → X.fn x = true ∨ X.env.scope.names.lookup x = some .local
theorem assignE_len : ∀ (es : List Expr) (env : Env), (assignEach es env).length = es.length
  | [], _ => rfl
  | e :: es, env => by cases e <;> simp [assignEach, assignE_len es env]
mutual
theorem trT_ok (hN : X.N = tc.N) (nd : tc.N.Nodup) (hsc : X.env.scope = tc.sc) (hK : X.K = Z.K) (hc : X.calm = true) {S : List Nat} (st : StOk X S) (hf : ∀ i, tc.res i = false → i ∈ S → FreeS c i) : ∀ (n : Nat) (e : Expr) (t : T), trT n tc e = some t → (∀ i ∈ slotsT t, i ∈ S) → PG X e (TGr Z c t)
  | 0, _, _, h, _ => by simp [trT] at h
  | n + 1, e, t, h, hs => by
    cases e <;> simp only [trT] at h <;> first | (cases h; done) | skip
    · rename_i x p
      split at h
      · rename_i hx
        simp only [Bool.and_eq_true, Bool.or_eq_true, decide_eq_true_eq] at hx
        cases hi : tc.slot x with
        | none => rw [hi] at h; cases h
        | some i =>
          rw [hi] at h
          dsimp only at h
          split at h
          · cases h
          · rename_i hr
            cases h
            have hi' : X.N[i]? = some x := by rw [hN]; exact slot_at hi
            have lx : Loc X.env.scope x := by rw [hsc]; exact hx.2
            have iS : i ∈ S := hs i (by simp [slotsT])
            exact tg_name (hf i (by simpa using hr) iS) (by rw [hN]; exact nd) hi' lx (st x i hi' iS lx)
      · cases h
    · rename_i es x p
      obtain ⟨ts, e1, rfl⟩ := Option.map_eq_some_iff.mp h
      obtain ⟨h1, h2, h3⟩ := trTs_ok hN nd hsc hK hc st hf n es ts e1 (fun i hi => hs i (by simpa [slotsT] using hi))
      exact tg_tup hK hc h1 h2 (assignE_len es X.env) h3
theorem trTs_ok (hN : X.N = tc.N) (nd : tc.N.Nodup) (hsc : X.env.scope = tc.sc) (hK : X.K = Z.K) (hc : X.calm = true) {S : List Nat} (st : StOk X S) (hf : ∀ i, tc.res i = false → i ∈ S → FreeS c i) : ∀ (n : Nat) (es : List Expr) (ts : List T), trTs n tc es = some ts → (∀ i ∈ slotsTs ts, i ∈ S) → PGs X es (TGrs Z c ts) ∧ ts.length = es.length ∧ (assignEach es X.env).findIdx? (·.1) = none
  | 0, _, _, h, _ => by simp [trTs] at h
  | n + 1, [], ts, h, _ => by simp [trTs] at h; subst h; exact ⟨tg_nil, rfl, rfl⟩
  | n + 1, e :: es, ts, h, hs => by
    simp only [trTs] at h
    cases h1 : trT n tc e with
    | none => rw [h1] at h; simp at h
    | some t =>
      cases h2 : trTs n tc es with
      | none => rw [h1, h2] at h; simp at h
      | some ts' =>
        rw [h1, h2] at h
        dsimp only at h
        cases h
        have g1 := trT_ok hN nd hsc hK hc st hf n e t h1 (fun i hi => hs i (by simp [slotsTs, hi]))
        obtain ⟨g2, g3, g4⟩ := trTs_ok hN nd hsc hK hc st hf n es ts' h2 (fun i hi => hs i (by simp [slotsTs, hi]))
        have ns : ∀ z p, e ≠ .Starred z p := fun z p ez => by
          subst ez
          cases n <;> simp [trT] at h1
        have e1 : assignEach (e :: es) X.env = (false, assign e X.env) :: assignEach es X.env := by
          cases e <;> first | rfl | exact absurd rfl (ns _ _)
        refine ⟨tg_cons g1 g2 (by rw [e1]; rfl), by simp [g3], ?_⟩
        rw [e1, List.findIdx?_cons]
        simp [g4]
end
end
end BF

/-! Snd21 -/
set_option Elab.async false
set_option linter.all false
set_option maxRecDepth 100000
set_option maxHeartbeats 4000000
namespace BF
open PySem L2

section
variable {bb : Bool} {X : Cx} {Z : Wd} {tc : Tc} {l : Lv} {c : Pl} {W : WX} {k n : Nat}
theorem noStarT_eq : noStarT = notStar := by funext e; cases e <;> rfl
theorem notSet_fold {it : Expr} {env : Env} (h : notSet it = true) : ∀ x, foldedSetIterable it env x = pure x := by
  intro x
  cases it <;> first | rfl | (simp [notSet] at h)
theorem tr_star {e : Expr} {p : Pos} : ∀ n, tr n tc (.Starred e p) = .bad
  | 0 => rfl
  | _ + 1 => rfl
theorem star_or (e : Expr) : notStar e = true ∨ ∃ z p, e = .Starred z p := by
  cases e <;> first | exact .inl rfl | exact .inr ⟨_, _, rfl⟩
/-! ### lists -/
theorem step_es (S : SE bb Z n) (o : Ok bb X Z tc l c W k) : ∀ es, PA X es (TAe Z c W (evs (trs (n + 1) tc es) l))
  | [] => s_nil
  | e :: es => by
    show PA X (e :: es) (TAe Z c W (evs (.cons (tr n tc e) (trs n tc es)) l))
    rcases star_or e with h | ⟨z, p, rfl⟩
    · exact s_cons (S.o o e).pe (S.es o es) (star_cons h)
    · rw [tr_star]
      exact .none fun σ H Q ⟨O, σd, _, q⟩ => q
theorem step_bs (S : SE bb Z n) (o : Ok bb X Z tc l c W k) : ∀ es, es.all notStar = true → Oas X Z c W l es (trs (n + 1) tc es)
  | [], _ => ⟨s_nilL, trivial⟩
  | e :: es, h => by
    rw [List.all_cons, Bool.and_eq_true] at h
    have ih := S.bs o es h.2
    refine ⟨s_consL ?_ ih.pa (star_cons h.1), (S.o o e).rvIn, ih.rv⟩
    rcases (S.o o e).at_ with q | ⟨i, e1, e2, _⟩
    · exact .inl q
    · exact .inr ⟨i, e1, e2⟩
/-! ### and, or -/
theorem step_b (S : SE bb Z n) (o : Ok bb X Z tc l c W k) : ∀ op vs pos, Opd X Z c W l (.BoolOp op vs pos) (trB (n + 1) tc op vs) ∧ PW X (.BoolOp op vs pos) (TTe Z c W (testF (trB (n + 1) tc op vs) l)) ∧ (freshE (frOf l.tb) (trB (n + 1) tc op vs) = true → PE X (.BoolOp op vs pos) (TFe Z c W (ev (trB (n + 1) tc op vs) l)))
  | op, [], pos => ⟨opd_bad, ⟨fun _ pins s σ H Q I ⟨O, σd, _, q⟩ => q.elim⟩, fun h => by cases h⟩
  | op, [a], pos => by
    refine ⟨⟨?_⟩, ?_, fun h => pe_one (S.f o a h)⟩
    · rcases (S.o o a).at_ with ⟨h1, h2⟩ | ⟨i, h1, h2, h3⟩
      · exact .inl ⟨h1, pe_one h2⟩
      · exact .inr ⟨i, h1, pe_one h2, h3⟩
    · cases op
      · exact pw_and1 (S.t o a)
      · exact pw_or1 (S.t o a)
  | op, a :: b :: r, pos => by
    cases op
    · exact ⟨.of rfl (pe_of_and o.K (S.o o a).pe (S.b o .And (b :: r) pos).1.pe), pw_of_and (S.t o a) (S.b o .And (b :: r) pos).2.1, fun h => by cases h⟩
    · exact ⟨.of rfl (pe_of_or o.K (S.o o a).pe (S.b o .Or (b :: r) pos).1.pe), pw_of_or (S.t o a) (S.b o .Or (b :: r) pos).2.1, fun h => by cases h⟩
/-! ### iterables -/
theorem trT_tup {m : Nat} {tc' : Tc} {tg : Expr} {ts : List T} (h : trT m tc' tg = some (.tup ts)) : ∃ es kk p, tg = .Tuple es kk p := by
  cases m with
  | zero => simp [trT] at h
  | succ m =>
    cases tg <;> simp only [trT] at h <;> first | (cases h; done) | skip
    · split at h
      · split at h
        · split at h <;> simp at h
        · cases h
      · cases h
    · exact ⟨_, _, _, rfl⟩
theorem blt_mem {x : Str} (o : Ok bb X Z tc l c W k) (h : x ∈ bltN) : X.mg x = none := o.blt x h
theorem all1 {a : Expr} (h : [a].all notStar = true) : notStar a = true := by simpa using h
theorem all2 {a b : Expr} (h : [a, b].all notStar = true) : notStar a = true ∧ notStar b = true := by simpa using h
theorem mkI_ok (o : Ok bb X Z tc l c W k) {g : Expr → E} (hg : ∀ e, PE X e (TEe Z c W (tP Z) (ev (g e) l))) {m : Nat} {tc' : Tc} {tg : Expr} {tt : T} {h : Bool} (e : Expr) (ht : trT m tc' tg = some tt) : ∀ i, mkI tc e g = i → fitI h i tt = true → PI X tg e (TIe Z c W (evi i l)) := by
  intro i hi hf
  have dflt : PI X tg e (TIe Z c W (evi (.val (g e)) l)) := i_val o.K (hg e)
  unfold mkI at hi
  split at hi
  · rename_i x np as p
    split at hi
    · rename_i hs
      rw [noStarT_eq] at hs
      split at hi
      · rename_i hx
        simp only [Bool.and_eq_true, decide_eq_true_eq] at hx
        obtain ⟨rfl, hgl⟩ := hx
        unfold mkR at hi
        split at hi <;> subst hi
        · exact i_rng1 (o.gl hgl) (o.blt "range" (by simp [bltN])) (hg _) (all1 hs)
        · exact i_rng2 (o.gl hgl) (o.blt "range" (by simp [bltN])) (hg _) (hg _) (all2 hs).1 (all2 hs).2
        · exact pi_bad fun _ => rfl
      · split at hi
        · rename_i hx
          simp only [Bool.and_eq_true, decide_eq_true_eq] at hx
          obtain ⟨rfl, hgl⟩ := hx
          unfold mkN at hi
          split at hi <;> subst hi
          · cases tt with
            | var i => simp [fitI] at hf
            | tup ts =>
              obtain ⟨es, kk, p', rfl⟩ := trT_tup ht
              exact i_enum o.K (o.gl hgl) (o.blt "enumerate" (by simp [bltN])) (hg _) (all1 hs)
          · exact pi_bad fun _ => rfl
        · split at hi
          · rename_i hx
            simp only [Bool.and_eq_true, decide_eq_true_eq] at hx
            obtain ⟨rfl, hgl⟩ := hx
            unfold mkZ at hi
            split at hi <;> subst hi
            · cases tt with
              | var i => simp [fitI] at hf
              | tup ts =>
                obtain ⟨es, kk, p', rfl⟩ := trT_tup ht
                exact i_zip o.K (o.gl hgl) (o.blt "zip" (by simp [bltN])) (hg _) (hg _) (all2 hs).1 (all2 hs).2
            · exact pi_bad fun _ => rfl
          · subst hi; exact dflt
    · subst hi; exact pi_bad fun _ => rfl
  · split at hi <;> subst hi
    · exact i_lst o.K (hg e)
    · exact dflt
theorem mkI_val {g : Expr → E} {e : Expr} {kv : E} (h : mkI tc e g = .lst kv) : kv = g e := by
  unfold mkI at h
  split at h
  · split at h
    · split at h
      · unfold mkR at h; split at h <;> cases h
      · split at h
        · unfold mkN at h; split at h <;> cases h
        · split at h
          · unfold mkZ at h; split at h <;> cases h
          · cases h
    · cases h
  · split at h <;> cases h
    rfl
theorem step_i (S : SE bb Z n) (o : Ok bb X Z tc l c W k) {m : Nat} {tc' : Tc} {tg : Expr} {tt : T} {h : Bool} (e : Expr) (ht : trT m tc' tg = some tt) (hf : fitI h (trI (n + 1) tc e) tt = true) : PI X tg e (TIe Z c W (evi (trI (n + 1) tc e) l)) :=
  mkI_ok o (fun e => (S.o o e).pe) e ht _ rfl hf
theorem step_iv (S : SE bb Z n) (o : Ok bb X Z tc l c W k) (e : Expr) (kv : E) (h : trI (n + 1) tc e = .lst kv) : PE X e (TEe Z c W (tP Z) (ev kv l)) := by
  rw [mkI_val (show mkI tc e (tr n tc) = .lst kv from h)]
  exact (S.o o e).pe
/-! ### methods -/
theorem mkMeth_ok (o : Ok bb X Z tc l c W k) {g : Expr → E} (hg : ∀ e, Opd X Z c W l e (g e)) (ob : Expr) (m : Str) (as : List Expr) (ap pos : Pos) (hl : (ap.endLine == pos.line) = true) : ∀ i, mkMeth tc ob m as g = i → Opd X Z c W l (.Call (.Attribute ob m ap) as [] pos) i ∧ freshE (frOf l.tb) i = false := by
  intro i hi
  have own_ : ∀ {j : Nat}, tc.own.contains j = true → j ∈ c.own := fun h => by rw [o.own]; exact List.contains_iff_mem.mp h
  unfold mkMeth at hi
  split at hi
  · rename_i hs
    rw [noStarT_eq] at hs
    split at hi
    · rename_i hm; subst hm
      split at hi
      · rename_i x np
        split at hi
        · rename_i hx
          simp only [Bool.and_eq_true] at hx
          split at hi
          · rename_i j hj
            split at hi
            · rename_i hw
              split at hi <;> subst hi
              · exact ⟨.of rfl (pe_append (own_ hw) (o.var hx.1 hx.2 hj) (hg _).pe (all1 hs) hl), rfl⟩
              · exact ⟨opd_bad, rfl⟩
            · subst hi; exact ⟨opd_bad, rfl⟩
          · subst hi; exact ⟨opd_bad, rfl⟩
        · subst hi; exact ⟨opd_bad, rfl⟩
      · subst hi; exact ⟨opd_bad, rfl⟩
    · split at hi
      · rename_i hm; subst hm
        split at hi
        · rename_i x np
          split at hi
          · rename_i hx
            simp only [Bool.and_eq_true] at hx
            split at hi
            · rename_i j hj
              split at hi
              · rename_i hw
                split at hi <;> subst hi
                · exact ⟨.of rfl (pe_pop0 (own_ hw) (o.var hx.1 hx.2 hj) hl), rfl⟩
                · exact ⟨.of rfl (pe_pop1 (own_ hw) (o.var hx.1 hx.2 hj) (hg _).pe (all1 hs) hl), rfl⟩
                · exact ⟨opd_bad, rfl⟩
              · subst hi; exact ⟨opd_bad, rfl⟩
            · subst hi; exact ⟨opd_bad, rfl⟩
          · subst hi; exact ⟨opd_bad, rfl⟩
        · subst hi; exact ⟨opd_bad, rfl⟩
      · split at hi
        · rename_i hm; subst hm
          split at hi
          · split at hi <;> subst hi
            · exact ⟨.of rfl (pe_of_join o.K (hg _).pe (hg _) (all1 hs) rfl hl), rfl⟩
            · exact ⟨opd_bad, rfl⟩
          · subst hi; exact ⟨opd_bad, rfl⟩
        · subst hi; exact ⟨opd_bad, rfl⟩
  · subst hi; exact ⟨opd_bad, rfl⟩
end
end BF

/-! Snd22 -/
set_option Elab.async false
set_option linter.all false
set_option maxRecDepth 100000
set_option maxHeartbeats 4000000
namespace BF
open PySem L2

section
variable {bb : Bool} {X : Cx} {Z : Wd} {tc : Tc} {l : Lv} {c : Pl} {W : WX} {k n : Nat}
/-- a call of the function that the name means -/
theorem pe_callV {f : Value} {r : List V → Hp → VK → Prop} {x : Str} {p pos : Pos} {e : Expr} {es : List Expr} {t : TA} (hc : CallR X f r) (hv : bootBuiltins x = some f) (hf : (∃ id, f = .builtin id) ∨ ∃ T, f = .type T) (hg : Gl X x) (hm : X.mg x = none) (hn : x ≠ "__name__") (hdb : (x == ("__debug__" : Str)) = false) (hs : (e :: es).all notStar = true) (ha : PA X (e :: es) t) :
    PE X (.Call (.Name x p) (e :: es) [] pos) (tCB r t) := by
  rw [List.all_cons, Bool.and_eq_true] at hs
  rcases hf with ⟨id, rfl⟩ | ⟨T, rfl⟩
  · exact pe_callB hc hg hm hv ha hn hdb (star_cons hs.1) (star_any hs.2)
  · exact pe_callTy hc hg hm hv ha hn hdb (star_cons hs.1) (star_any hs.2)
theorem bi1_f {x : Str} {b : Bi} (h : bi1 x = some b) : ∃ f, bV b = some f ∧ bootBuiltins x = some f ∧ ((∃ id, f = .builtin id) ∨ ∃ T, f = .type T) ∧ x ∈ bltN ∧ x ≠ "__name__" := by
  unfold bi1 at h
  repeat' split at h
  all_goals first
    | (cases h; done)
    | (rename_i e; cases h; subst e; exact ⟨_, rfl, by rfl, by first | exact .inl ⟨_, rfl⟩ | exact .inr ⟨_, rfl⟩, by simp [bltN], by decide⟩)
theorem bi2_f {x : Str} {b : Bi} (h : bi2 x = some b) : ∃ f, bV b = some f ∧ bootBuiltins x = some f ∧ ((∃ id, f = .builtin id) ∨ ∃ T, f = .type T) ∧ x ∈ bltN ∧ x ≠ "__name__" := by
  unfold bi2 at h
  repeat' split at h
  all_goals first
    | (cases h; done)
    | (rename_i e; cases h; subst e; exact ⟨_, rfl, by rfl, by first | exact .inl ⟨_, rfl⟩ | exact .inr ⟨_, rfl⟩, by simp [bltN], by decide⟩)
theorem isT_f {y : Str} {b : Bi} (h : isT y = some b) : ∃ T, isB b = some T ∧ bootBuiltins y = some (.type T) ∧ y ∈ bltN ∧ y ≠ "__name__" := by
  unfold isT at h
  repeat' split at h
  all_goals first
    | (cases h; done)
    | (rename_i e; cases h; subst e; exact ⟨_, rfl, by rfl, by simp [bltN], by decide⟩)
theorem s_blt (o : Ok bb X Z tc l c W k) (hc : X.calm = true) {x : Str} {b : Bi} {f : Value} {e : Expr} {es : List Expr} {ks : Es} {p pos : Pos} (h : bV b = some f ∧ bootBuiltins x = some f ∧ ((∃ id, f = .builtin id) ∨ ∃ T, f = .type T) ∧ x ∈ bltN ∧ x ≠ "__name__") (hg : Gl X x) (hdb : (x == ("__debug__" : Str)) = false) (hs : (e :: es).all notStar = true)
    (ha : Oas X Z c W l (e :: es) ks) : PE X (.Call (.Name x p) (e :: es) [] pos) (TFe Z c W (ev (.bi b ks) l)) :=
  s_bi ha (fun t ht => pe_callV (callR_b hc h.1) h.2.1 h.2.2.1 hg (o.blt x h.2.2.2.1) h.2.2.2.2 hdb hs ht) fun O σd σ H0 H xs vs d Q r hb0 ra e q => b_ok o.K r hb0 ra e (by rw [h.1]; rfl) q
/-- isinstance of the error that a suite holds -/
theorem pe_isx (o : Ok bb X Z tc l c W k) {i j : Nat} {z y : Str} {zp yp p pos : Pos} (hh : tc.hld = some i) (hx : tc.hx = true) (hz : okNm z = true) (hv : tc.vis z = true) (hs : tc.slot z = some i) (hy : okNm y = true) (hgy : tc.glob y = true) (he : slotGo y tc.excs 0 = some j) (hg : Gl X "isinstance") :
    PE X (.Call (.Name "isinstance" p) [.Name z zp, .Name y yp] [] pos) (TEe Z c W (tP Z) (ev (.isx i j) l)) := by
  obtain ⟨_, a, k', h1, h2, h3, h4⟩ := o.hot i hh hx
  refine (pe_callB h3 hg (o.blt "isinstance" (by simp [bltN])) (by rfl) (pa_cons (o.var hz hv hs) (pa_cons (pe_glob (o.gl hgy) (o.exc y j he).mg (v := .ref (Z.cad j)) rfl (okNm_1 hy).1) pa_nil rfl) rfl) (by decide) (by decide) rfl rfl).weak fun σ H Q ⟨O, σd, hr, hgo⟩ => ?_
  have e : ev (.isx i j) l σd = .ok (.bl (l.sub k' j), σd) := by unfold ev; rw [h2]
  rw [e] at hgo
  exact ⟨_, hr.hold i _ h1, _, .ref (Z.cad j), _, rfl, fun u ru => ru, h4 y j he, hgo.ok hr KeepE.refl _ (.bl _)⟩
theorem mkBlt_ok (o : Ok bb X Z tc l c W k) {g : Expr → E} {gs : List Expr → Es} (hg : ∀ e, Opd X Z c W l e (g e)) (hgs : ∀ es, es.all notStar = true → Oas X Z c W l es (gs es)) (x : Str) (as : List Expr) (p pos : Pos) (hn : okNm x = true) (hgl : tc.glob x = true) (hs : as.all notStar = true) :
    ∀ i, mkBlt tc x as g gs = i → Opd X Z c W l (.Call (.Name x p) as [] pos) i ∧ (freshE (frOf l.tb) i = true → PE X (.Call (.Name x p) as [] pos) (TFe Z c W (ev i l))) := by
  intro i hi
  have bad_ : Opd X Z c W l (.Call (.Name x p) as [] pos) .bad ∧ (freshE (frOf l.tb) .bad = true → PE X (.Call (.Name x p) as [] pos) (TFe Z c W (ev .bad l))) := ⟨opd_bad, fun h => by cases h⟩
  have hdb := (okNm_1 hn).1
  unfold mkBlt at hi
  split at hi
  · rename_i a
    split at hi
    · subst hi; exact bad_
    · rename_i hh
      have hc : X.calm = true := (o.calm (by simpa using hh)).1
      split at hi
      · rename_i b hb
        subst hi
        obtain ⟨f, hf⟩ := bi1_f hb
        have := s_blt (p := p) (pos := pos) o hc hf (o.gl hgl) hdb hs (hgs [a] hs)
        exact ⟨.of rfl this.ofF, fun _ => this⟩
      · subst hi; exact bad_
  · rename_i a b
    split at hi
    · rename_i hx
      subst hx
      split at hi
      · rename_i y yp
        split at hi
        · rename_i hy
          simp only [Bool.and_eq_true] at hy
          split at hi
          · rename_i j hj
            split at hi
            · rename_i z zp
              split at hi
              · rename_i hz
                simp only [Bool.and_eq_true] at hz
                split at hi
                · rename_i q hq
                  split at hi
                  · rename_i hw
                    simp only [Bool.and_eq_true, decide_eq_true_eq] at hw
                    subst hi
                    exact ⟨.of rfl (pe_isx o hw.1 hw.2 hz.1 hz.2 hq hy.1 hy.2 hj (o.gl hgl)), fun h => by cases h⟩
                  · subst hi; exact bad_
                · subst hi; exact bad_
              · subst hi; exact bad_
            · subst hi; exact bad_
          · split at hi
            · rename_i t ht
              subst hi
              obtain ⟨T, h1, h2, h3, h4⟩ := isT_f ht
              have ns := (all2 hs).1
              refine ⟨.of rfl (s_isi o.K h1 (hg a) (pe_bltn (o.gl hy.2) (o.blt y h3) h2 rfl h4 (okNm_1 hy.1).1) ns fun t' ht' => pe_callB call_isi (o.gl hgl) (o.blt "isinstance" (by simp [bltN])) (by rfl) ht' (by decide) (by decide) (star_cons ns) rfl), fun h => ?_⟩
              cases t <;> first | (cases h; done) | (simp [isB] at h1)
            · subst hi; exact bad_
        · subst hi; exact bad_
      · subst hi; exact bad_
    · split at hi
      · subst hi; exact bad_
      · rename_i hh
        have hc : X.calm = true := (o.calm (by simpa using hh)).1
        split at hi
        · rename_i q hq
          subst hi
          obtain ⟨f, hf⟩ := bi2_f hq
          have := s_blt (p := p) (pos := pos) o hc hf (o.gl hgl) hdb hs (hgs [a, b] hs)
          exact ⟨.of rfl this.ofF, fun _ => this⟩
        · subst hi; exact bad_
  · subst hi; exact bad_
end
end BF

/-! Snd23 -/
set_option Elab.async false
set_option linter.all false
set_option maxRecDepth 100000
set_option maxHeartbeats 4000000
namespace BF
open PySem L2

section
variable {bb : Bool} {X : Cx} {Z : Wd} {tc : Tc} {l : Lv} {c : Pl} {W : WX} {k n : Nat}
theorem isLam_eq {as : List Expr} {ps : Arguments} {b : Expr} {sc : Scope} (h : isLam as = some (ps, b, sc)) : ∃ p, as = [.Lambda ps b sc p] := by
  unfold isLam at h
  split at h
  · cases h; exact ⟨_, rfl⟩
  · cases h
theorem mkCall_ok (hL : LamH bb Z) (o : Ok bb X Z tc l c W k) {g : Expr → E} {gs : List Expr → Es} {gl : Scope → Expr → E} (hg : ∀ e, Opd X Z c W l e (g e)) (hgs : ∀ es, es.all notStar = true → Oas X Z c W l es (gs es)) (hz : gs [] = .nil ∨ ∀ σ, evbs (gs []) l σ = .bad)
    (hgl : ∀ {sc : Scope} {b : Expr} {X' : Cx} {l' : Lv} {c' : Pl} {W' : WX} {k' : Nat}, Ok bb X' Z { tc with sc := sc, own := [], bor := tc.own ++ tc.bor, hld := none, hx := false, lm := false } l' c' W' k' → PE X' b (TEe Z c' W' (tP Z) (ev (gl sc b) l')))
    (x : Str) (as : List Expr) (p pos : Pos) : ∀ i, mkCall tc x as g gs gl = i → Opd X Z c W l (.Call (.Name x p) as [] pos) i ∧ (freshE (frOf l.tb) i = true → PE X (.Call (.Name x p) as [] pos) (TFe Z c W (ev i l))) := by
  intro i hi
  have bad_ : Opd X Z c W l (.Call (.Name x p) as [] pos) .bad ∧ (freshE (frOf l.tb) .bad = true → PE X (.Call (.Name x p) as [] pos) (TFe Z c W (ev .bad l))) := ⟨opd_bad, fun h => by cases h⟩
  unfold mkCall at hi
  split at hi
  · rename_i hx
    simp only [Bool.and_eq_true] at hx
    obtain ⟨hn, hs⟩ := hx
    rw [noStarT_eq] at hs
    have hdb := (okNm_1 hn).1
    split at hi
    · rename_i hv
      split at hi
      · rename_i j hj
        split at hi
        · subst hi; exact bad_
        · rename_i hr
          simp only [Bool.or_eq_true, not_or, Bool.not_eq_true] at hr
          obtain ⟨f1, f2, _⟩ := res_no hr.1 o
          have hh : tc.hld = none := by simpa using hr.2
          split at hi <;> subst hi
          · exact ⟨.of rfl (pe_bad fun _ => rfl), fun h => by cases h⟩
          · rename_i a r
            exact ⟨.of rfl (pe_of_cal (fun f fd h => o.call f fd h) (o.calm hh).2.1 (o.at_ hj) (o.vis hv) f1 f2 o.tk (hgs _ hs) hs hdb (okNm_1 hn).2), fun h => by cases h⟩
      · subst hi; exact bad_
    · split at hi
      · rename_i hgl'
        split at hi
        · rename_i f hf
          split at hi
          · subst hi; exact bad_
          · rename_i hh
            have hh : tc.hld = none := by simpa using hh
            split at hi
            · rename_i ps b sc hlm
              obtain ⟨lp, rfl⟩ := isLam_eq hlm
              split at hi
              · rename_i hc
                simp only [Bool.and_eq_true] at hc
                subst hi
                exact ⟨.of rfl (hL o hh hn hgl' hf hc.1.1 hc.1.2 hc.2 hgl), fun h => by cases h⟩
              · subst hi; exact bad_
            · subst hi
              have hsub : ∀ i ∈ l.own, i ∈ c.own := fun i h => by rw [o.own, ← o.lown]; exact h
              cases hfd : l.tb[f]? with
              | none =>
                have e : ∀ σ, ev (.call f (gs as)) l σ = .bad := fun σ => by unfold ev; rw [hfd]
                exact ⟨.of rfl (pe_bad e), fun _ => pf_bad e⟩
              | some fd =>
                have := pe_of_call (p := p) (pos := pos) (o.call f fd hfd) hfd (o.calm hh).2.1 (o.gl hgl') (o.fns x f hf) o.tk (hgs as hs) (fun e => by rw [e]; exact hz) hsub hs hdb
                refine ⟨.of rfl this.ofG, fun h => ?_⟩
                have h : frOf l.tb f = true := h
                unfold frOf at h
                rw [hfd] at h
                have h : fd.fresh = true := h
                rw [h] at this
                exact this.ofGF
        · exact mkBlt_ok o hg hgs x as p pos hn hgl' hs i hi
      · subst hi; exact bad_
  · subst hi; exact bad_
/-! ### comprehensions -/
theorem bool_of {p : Prop} [Decidable p] : (decide p = true) = p := by simp
theorem mkLc_ok (hH : HotH bb Z) (o : Ok bb X Z tc l c W k) {gt : Tc → Expr → Option T} {ge : Tc → E} {gi : Expr → I} {gc : Tc → Expr → E} {elt : Expr} {m : Nat} (hgt : gt = trT m)
    (hge : ∀ {X' : Cx} {tc' : Tc} {l' : Lv} {c' : Pl} {W' : WX} {k' : Nat}, Ok bb X' Z tc' l' c' W' k' → PE X' elt (TEe Z c' W' (tP Z) (ev (ge tc') l')))
    (hgi : ∀ {m : Nat} {tc' : Tc} {tg : Expr} {tt : T} {h : Bool} (e : Expr), trT m tc' tg = some tt → fitI h (gi e) tt = true → PI X tg e (TIe Z c W (evi (gi e) l)))
    (hgv : ∀ (e : Expr) (kv : E), gi e = .lst kv → PE X e (TEe Z c W (tP Z) (ev kv l)))
    (hgc : ∀ {X' : Cx} {tc' : Tc} {l' : Lv} {c' : Pl} {W' : WX} {k' : Nat}, Ok bb X' Z tc' l' c' W' k' → ∀ e, PT X' e (TTe Z c' W' (testF (gc tc' e) l')))
    (gs : List Comprehension) (scope : Scope) (pos : Pos) : ∀ i, mkLc tc gs scope gt ge gi gc = i → PE X (.ListComp elt gs scope pos) (TFe Z c W (ev i l)) := by
  intro i hi
  have bad_ : PE X (.ListComp elt gs scope pos) (TFe Z c W (ev .bad l)) := pf_bad fun _ => rfl
  subst hgt
  unfold mkLc at hi
  split at hi
  · rename_i t it ifs a
    split at hi
    · rename_i h1
      simp only [Bool.and_eq_true, Bool.or_eq_true, decide_eq_true_eq] at h1
      obtain ⟨⟨⟨rfl, hset⟩, hx⟩, hblk⟩ := h1
      split at hi
      · rename_i tt htt
        split at hi
        · rename_i h2
          simp only [Bool.and_eq_true, List.all_eq_true, List.contains_iff_mem, Bool.not_eq_true'] at h2
          obtain ⟨⟨hts, hfr⟩, hfit⟩ := h2
          have ok : BlkOk X.N X.env.scope scope (ownOf tc.N scope.names) := by rw [o.N, o.sc]; exact blkOk_by hblk
          have hf : ∀ v ∈ (ownOf tc.N scope.names).map (·.2), FreeS c v := fun v hv => res_no (hfr v hv) o
          have core : ∀ (cc : Eo), (∀ {X' : Cx} {l' : Lv} {c' : Pl} {W' : WX} {k' : Nat}, Ok bb X' Z { tc with sc := relS scope tc.sc, hx := false } l' c' W' k' → PTs X' ifs (TTe Z c' W' (evc cc l'))) →
              PE X (.ListComp elt [⟨t, it, ifs, 0⟩] scope pos) (TFe Z c W (ev (.lc ((ownOf tc.N scope.names).map (·.2)) (ge { tc with sc := relS scope tc.sc, hx := false }) tt (gi it) cc) l)) := fun cc hcc => by
            have hor : tc.hld = none ∨ ∃ q, tc.hld = some q := by cases tc.hld <;> simp
            rcases hor with hh | ⟨q, hh⟩
            · refine pe_of_lc (o.calm hh).1 (by rw [o.N]; exact o.nd) ok hf hts (hgi it htt hfit) (fun a s H C cl fp => ?_) (fun a s H C cl fp => hcc (o.blk hh a s H scope C cl fp)) (fun a s H C cl fp => hge (o.blk hh a s H scope C cl fp)) (notSet_fold hset)
              have ob := o.blk hh a s H scope C cl fp
              refine trT_ok ob.N ob.nd ob.sc ob.K (o.calm hh).1 (S := (ownOf tc.N scope.names).map (·.2)) (fun x i hi hS lx => ?_) (fun i hi _ => res_no hi ob) m t tt htt hts
              obtain ⟨q, hq, rfl⟩ := List.mem_map.mp hS
              obtain ⟨kk, k1, k2⟩ := mem_ownOf hq
              have e1 := ok.ix q hq
              have e2 : X.N[q.2]? = some x := hi
              rw [e1] at e2
              have e3 : q.1 = x := by simpa using e2
              rw [e3] at k1
              have e4 := ok.uniq _ k1
              rcases k2 with rfl | rfl
              · exact .inr (lookup_relS_keep (by decide) e4)
              · refine .inl ?_
                show (scope.names.lookup x == some .cell) = true
                rw [e4]; rfl
            · have hx' : tc.hx = true := by
                rcases hx with h | h
                · rw [hh] at h; cases h
                · exact h
              rw [hh] at hfit
              cases hv : gi it with
              | lst kv =>
                refine hH o hh hx' ok hf hts (hgv it kv hv) (by rw [hv] at hfit; exact hfit) (fun q hq => mem_ownOf hq) htt (fun o' => hge o') hcc (notSet_fold hset)
              | val _ => rw [hv] at hfit; cases tt <;> simp [fitI] at hfit
              | rng1 _ => rw [hv] at hfit; cases tt <;> simp [fitI] at hfit
              | rng2 _ _ => rw [hv] at hfit; cases tt <;> simp [fitI] at hfit
              | enum _ => rw [hv] at hfit; cases tt <;> simp [fitI] at hfit
              | zip _ _ => rw [hv] at hfit; cases tt <;> simp [fitI] at hfit
              | bad => rw [hv] at hfit; cases tt <;> simp [fitI] at hfit
          split at hi <;> subst hi
          · refine core .none fun {X' l' c' W' k'} o' => ⟨fun pins s σ H Q I ⟨O, σd, hr, hg⟩ => ?_⟩
            exact pts_nil.run pins s σ H Q I (hg.ok hr KeepE.refl)
          · exact core _ fun o' => pts_one (hgc o' _)
          · exact bad_
        · subst hi; exact bad_
      · subst hi; exact bad_
    · subst hi; exact bad_
  · subst hi; exact bad_
theorem mkLc_ps (o : Ok bb X Z tc l c W k) (hh : tc.hld = none) {y : Str} {py spos : Pos} {j : Nat} (hy : X.N[j]? = some y) (hyl : X.env.scope.names.lookup y = some .local) {gt : Tc → Expr → Option T} {ge : Tc → E} {gi : Expr → I} {gc : Tc → Expr → E} {elt : Expr} {m : Nat} (hgt : gt = trT m)
    (hge : ∀ {X' : Cx} {tc' : Tc} {l' : Lv} {c' : Pl} {W' : WX} {k' : Nat}, Ok bb X' Z tc' l' c' W' k' → PE X' elt (TEe Z c' W' (tP Z) (ev (ge tc') l')))
    (hgi : ∀ {m : Nat} {tc' : Tc} {tg : Expr} {tt : T} {h : Bool} (e : Expr), trT m tc' tg = some tt → fitI h (gi e) tt = true → PI X tg e (TIe Z c W (evi (gi e) l)))
    (hgv : ∀ (e : Expr) (kv : E), gi e = .lst kv → PE X e (TEe Z c W (tP Z) (ev kv l)))
    (hgc : ∀ {X' : Cx} {tc' : Tc} {l' : Lv} {c' : Pl} {W' : WX} {k' : Nat}, Ok bb X' Z tc' l' c' W' k' → ∀ e, PT X' e (TTe Z c' W' (testF (gc tc' e) l')))
    (gs : List Comprehension) (scope : Scope) (pos : Pos) (hsw : swapsWith (.ListComp elt gs scope pos) (some (.Name y py)) spos.line X.env = pure true) : ∀ i, mkLc tc gs scope gt ge gi gc = i → PS X (.Assign [.Name y py] (.ListComp elt gs scope pos) spos) (tAsg (TFe Z c W (ev i l)) (gName j)) := by
  intro i hi
  have bad_ : PS X (.Assign [.Name y py] (.ListComp elt gs scope pos) spos) (tAsg (TFe Z c W (ev .bad l)) (gName j)) := .none fun D σ H ⟨O, σd, _, q⟩ => q
  subst hgt
  unfold mkLc at hi
  split at hi
  · rename_i t it ifs a
    split at hi
    · rename_i h1
      simp only [Bool.and_eq_true, Bool.or_eq_true, decide_eq_true_eq] at h1
      obtain ⟨⟨⟨rfl, hset⟩, hx⟩, hblk⟩ := h1
      split at hi
      · rename_i tt htt
        split at hi
        · rename_i h2
          simp only [Bool.and_eq_true, List.all_eq_true, List.contains_iff_mem, Bool.not_eq_true'] at h2
          obtain ⟨⟨hts, hfr⟩, hfit⟩ := h2
          have ok : BlkOk X.N X.env.scope scope (ownOf tc.N scope.names) := by rw [o.N, o.sc]; exact blkOk_by hblk
          have hf : ∀ v ∈ (ownOf tc.N scope.names).map (·.2), FreeS c v := fun v hv => res_no (hfr v hv) o
          have core : ∀ (cc : Eo), (∀ {X' : Cx} {l' : Lv} {c' : Pl} {W' : WX} {k' : Nat}, Ok bb X' Z { tc with sc := relS scope tc.sc, hx := false } l' c' W' k' → PTs X' ifs (TTe Z c' W' (evc cc l'))) →
              PS X (.Assign [.Name y py] (.ListComp elt [⟨t, it, ifs, 0⟩] scope pos) spos) (tAsg (TFe Z c W (ev (.lc ((ownOf tc.N scope.names).map (·.2)) (ge { tc with sc := relS scope tc.sc, hx := false }) tt (gi it) cc) l)) (gName j)) := fun cc hcc => by
            · refine ps_of_setLc (o.calm hh).1 (by rw [o.N]; exact o.nd) ok hf hts hy hyl hsw (hgi it htt hfit) (fun a s H C cl fp => ?_) (fun a s H C cl fp => hcc (o.blk hh a s H scope C cl fp)) (fun a s H C cl fp => hge (o.blk hh a s H scope C cl fp)) (notSet_fold hset)
              have ob := o.blk hh a s H scope C cl fp
              refine trT_ok ob.N ob.nd ob.sc ob.K (o.calm hh).1 (S := (ownOf tc.N scope.names).map (·.2)) (fun x i hi hS lx => ?_) (fun i hi _ => res_no hi ob) m t tt htt hts
              obtain ⟨q, hq, rfl⟩ := List.mem_map.mp hS
              obtain ⟨kk, k1, k2⟩ := mem_ownOf hq
              have e1 := ok.ix q hq
              have e2 : X.N[q.2]? = some x := hi
              rw [e1] at e2
              have e3 : q.1 = x := by simpa using e2
              rw [e3] at k1
              have e4 := ok.uniq _ k1
              rcases k2 with rfl | rfl
              · exact .inr (lookup_relS_keep (by decide) e4)
              · refine .inl ?_
                show (scope.names.lookup x == some .cell) = true
                rw [e4]; rfl
          split at hi <;> subst hi
          · refine core .none fun {X' l' c' W' k'} o' => ⟨fun pins s σ H Q I ⟨O, σd, hr, hg⟩ => ?_⟩
            exact pts_nil.run pins s σ H Q I (hg.ok hr KeepE.refl)
          · exact core _ fun o' => pts_one (hgc o' _)
          · exact bad_
        · subst hi; exact bad_
      · subst hi; exact bad_
    · subst hi; exact bad_
  · subst hi; exact bad_
end
end BF

/-! Snd24 -/
set_option Elab.async false
set_option linter.all false
set_option maxRecDepth 100000
set_option maxHeartbeats 4000000
namespace BF
open PySem L2

section
variable {bb : Bool} {X : Cx} {Z : Wd} {tc : Tc} {l : Lv} {c : Pl} {W : WX} {k n : Nat}
theorem cm_map (op : CmpOp) : mapCm (cm op) = op := by cases op <;> rfl
theorem step_c (hL : LamH bb Z) (S : SE bb Z n) (o : Ok bb X Z tc l c W k) (x : Str) (as : List Expr) (p pos : Pos) : Opd X Z c W l (.Call (.Name x p) as [] pos) (trCall (n + 1) tc x as) ∧ (freshE (frOf l.tb) (trCall (n + 1) tc x as) = true → PE X (.Call (.Name x p) as [] pos) (TFe Z c W (ev (trCall (n + 1) tc x as) l))) :=
  mkCall_ok hL o (fun e => S.o o e) (fun es h => S.bs o es h) S.bz (fun {sc b X' l' c' W' k'} o' => (S.o o' b).pe) x as p pos _ rfl
theorem step_lc (hH : HotH bb Z) (S : SE bb Z n) (o : Ok bb X Z tc l c W k) (elt : Expr) (gs : List Comprehension) (scope : Scope) (pos : Pos) : PE X (.ListComp elt gs scope pos) (TFe Z c W (ev (tr (n + 1) tc (.ListComp elt gs scope pos)) l)) :=
  mkLc_ok hH o (m := n) rfl (fun o' => (S.o o' elt).pe) (fun e h1 h2 => S.i o e h1 h2) (fun e kv h => S.iv o e kv h) (fun o' e => S.t o' e) gs scope pos _ rfl
/-- the value of each form -/
theorem step_o (hL : LamH bb Z) (hH : HotH bb Z) (S : SE bb Z n) (o : Ok bb X Z tc l c W k) (e : Expr) : Opd X Z c W l e (tr (n + 1) tc e) ∧ (freshE (frOf l.tb) (tr (n + 1) tc e) = true → PE X e (TFe Z c W (ev (tr (n + 1) tc e) l))) := by
  have bad_ : Opd X Z c W l e .bad ∧ (freshE (frOf l.tb) .bad = true → PE X e (TFe Z c W (ev .bad l))) := ⟨opd_bad, fun h => by cases h⟩
  cases e with
  | Constant v j p =>
    cases v with
    | none => exact ⟨.of rfl (s_cst pe_non fun _ => .non), fun h => by cases h⟩
    | bool b => exact ⟨.of rfl (s_cst pe_bl fun _ => .bl b), fun h => by cases h⟩
    | int b => exact ⟨.of rfl (s_cst pe_int fun _ => .int b), fun h => by cases h⟩
    | str b => exact ⟨.of rfl (s_cst pe_str fun _ => .str b), fun h => by cases h⟩
    | _ => exact bad_
  | Name x p =>
    refine ⟨o_name o x p, fun h => ?_⟩
    have h : freshE (frOf l.tb) (trName tc x) = true := h
    unfold trName at h
    repeat' split at h
    all_goals cases h
  | Tuple es x p => exact ⟨.of rfl (s_tup (S.es o es) o.K), fun h => by cases h⟩
  | List es p => exact ⟨.of rfl (s_lst (S.es o es)).ofF, fun _ => s_lst (S.es o es)⟩
  | BinOp a op b p =>
    show Opd X Z c W l _ (match op2 op with | some o => .bin o (tr n tc a) (tr n tc b) | none => .bad) ∧ (freshE (frOf l.tb) (match op2 op with | some o => .bin o (tr n tc a) (tr n tc b) | none => .bad) = true → PE X _ (TFe Z c W (ev (match op2 op with | some o => .bin o (tr n tc a) (tr n tc b) | none => .bad) l)))
    cases ho : op2 op with
    | none => exact bad_
    | some q =>
      have e := op2_map ho
      subst e
      exact ⟨.of rfl (s_bin o.K (S.o o a) (S.o o b)).ofF, fun _ => s_bin o.K (S.o o a) (S.o o b)⟩
  | UnaryOp op a p =>
    cases op
    · exact bad_
    · exact ⟨.of rfl (pe_of_not o.K (S.o o a)), fun h => by cases h⟩
    · exact bad_
    · exact ⟨.of rfl (pe_of_neg (S.o o a).pe), fun h => by cases h⟩
  | BoolOp op vs p => exact ⟨(S.b o op vs p).1, (S.b o op vs p).2.2⟩
  | Compare a ops bs p =>
    match ops, bs with
    | [op], [b] =>
      show Opd X Z c W l _ (if notSet b then .cmp (cm op) (tr n tc a) (tr n tc b) else .bad) ∧ (freshE (frOf l.tb) (if notSet b then .cmp (cm op) (tr n tc a) (tr n tc b) else .bad) = true → PE X _ (TFe Z c W (ev (if notSet b then .cmp (cm op) (tr n tc a) (tr n tc b) else .bad) l)))
      cases hb : notSet b with
      | false => exact bad_
      | true =>
        have := cmp_bl (pos := p) o.K o.un (o := cm op) (inMarks hb) (S.o o a) (S.o o b)
        rw [cm_map] at this
        exact ⟨.of rfl this, fun h => by cases h⟩
    | [op, op'], [b, d] =>
      show Opd X Z c W l _ (if notSet d then .chain (cm op) (cm op') (tr n tc a) (tr n tc b) (tr n tc d) else .bad) ∧ (freshE (frOf l.tb) (if notSet d then .chain (cm op) (cm op') (tr n tc a) (tr n tc b) (tr n tc d) else .bad) = true → PE X _ (TFe Z c W (ev (if notSet d then .chain (cm op) (cm op') (tr n tc a) (tr n tc b) (tr n tc d) else .bad) l)))
      cases hb : notSet d with
      | false => exact bad_
      | true =>
        have := pe_of_chain (pos := p) o.K o.un (o := cm op) (o' := cm op') hb (S.o o a) (S.o o b).pe (S.o o d)
        rw [cm_map, cm_map] at this
        exact ⟨.of rfl this, fun h => by cases h⟩
    | [], [] => exact bad_
    | [], _ :: _ => exact bad_
    | [_], [] => exact bad_
    | [_], _ :: _ :: _ => exact bad_
    | [_, _], [] => exact bad_
    | [_, _], [_] => exact bad_
    | [_, _], _ :: _ :: _ :: _ => exact bad_
    | _ :: _ :: _ :: _, _ => exact bad_
  | IfExp t a b p =>
    refine ⟨.of rfl (pe_of_ite (S.t o t) (S.o o a).pe (S.o o b).pe), fun h => ?_⟩
    have h : (freshE (frOf l.tb) (tr n tc a) && freshE (frOf l.tb) (tr n tc b)) = true := h
    simp only [Bool.and_eq_true] at h
    exact pe_of_iteF (S.t o t) (S.f o a h.1) (S.f o b h.2)
  | Subscript a s p =>
    have sub_ : notSl s = true → Opd X Z c W l (.Subscript a s p) (.sub (tr n tc a) (tr n tc s)) ∧ (freshE (frOf l.tb) (.sub (tr n tc a) (tr n tc s)) = true → PE X (.Subscript a s p) (TFe Z c W (ev (.sub (tr n tc a) (tr n tc s)) l))) := fun h =>
      ⟨.of rfl (pe_of_sub o.K o.un h (S.o o a) (S.o o s).pe), fun h => by cases h⟩
    cases s with
    | Slice lo hi st p2 =>
      cases st with
      | none =>
        have := pe_of_sl (p2 := p2) (pos := p) o.K (S.o o a) (S.oo o lo) (S.oo o hi)
        exact ⟨.of rfl this.ofF, fun _ => this⟩
      | some e =>
        show Opd X Z c W l _ (if isBack lo hi e = true then .rev (tr n tc a) else .bad) ∧ (freshE (frOf l.tb) (if isBack lo hi e = true then .rev (tr n tc a) else .bad) = true → PE X _ (TFe Z c W (ev (if isBack lo hi e = true then .rev (tr n tc a) else .bad) l)))
        cases hb : isBack lo hi e with
        | false => exact bad_
        | true =>
          unfold isBack at hb
          split at hb
          · rename_i kk p4 p3
            have := pe_of_rev (p2 := p2) (pos := p) (p3 := p3) (p4 := p4) (kk := kk) o.K (S.o o a)
            exact ⟨.of rfl this.ofF, fun _ => this⟩
          · cases hb
    | _ => exact sub_ rfl
  | Dict ks vs p =>
    match ks, vs with
    | [], [] => exact ⟨.of rfl pe_of_dict.ofF, fun _ => pe_of_dict⟩
    | [], _ :: _ => exact bad_
    | _ :: _, _ => exact bad_
  | ListComp elt gs scope p =>
    refine ⟨.of ?_ (step_lc hH S o elt gs scope p).ofF, fun _ => step_lc hH S o elt gs scope p⟩
    rw [show tr (n + 1) tc (.ListComp elt gs scope p) = mkLc tc gs scope (trT n) (fun c' => tr n c' elt) (trI n tc) (fun c' i => tr n c' i) from rfl]
    unfold mkLc
    repeat' split
    all_goals rfl
  | Call f as ks p =>
    cases ks with
    | cons _ _ => exact bad_
    | nil =>
      cases f with
      | Name x np => exact S.c o x as np p
      | Attribute ob m ap =>
        show Opd X Z c W l _ (if ap.endLine == p.line then trMeth n tc ob m as else .bad) ∧ (freshE (frOf l.tb) (if ap.endLine == p.line then trMeth n tc ob m as else .bad) = true → PE X _ (TFe Z c W (ev (if ap.endLine == p.line then trMeth n tc ob m as else .bad) l)))
        cases hl : ap.endLine == p.line with
        | false => exact bad_
        | true =>
          obtain ⟨h1, h2⟩ := S.m o ob m as ap p hl
          refine ⟨h1, fun h => ?_⟩
          rw [if_pos rfl, h2] at h
          cases h
      | _ => exact bad_
  | _ => exact bad_
/-- the test of each form -/
theorem step_t (hL : LamH bb Z) (hH : HotH bb Z) (S : SE bb Z n) (o : Ok bb X Z tc l c W k) (e : Expr) : PT X e (TTe Z c W (testF (tr (n + 1) tc e) l)) := by
  have gen : (∀ whole, isTrue e X.env whole = (do let v ← whole; standAt e.pos; holding [v] (truthy v))) → PT X e (TTe Z c W (testF (tr (n + 1) tc e) l)) := fun h => tt_gen o.K (step_o hL hH S o e).1 h
  have bad_ : PT X e (TTe Z c W (testF .bad l)) := pt_bad fun _ => rfl
  cases e with
  | UnaryOp op a p =>
    cases op
    · exact bad_
    · exact tt_not (S.t o a)
    · exact bad_
    · exact gen fun _ => rfl
  | BoolOp op vs p => exact (S.b o op vs p).2.1.pt
  | IfExp t a b p => exact tt_ite (S.t o t) (S.t o a) (S.t o b)
  | Compare a ops bs p =>
    match ops, bs with
    | [op], [b] =>
      show PT X _ (TTe Z c W (testF (if notSet b then .cmp (cm op) (tr n tc a) (tr n tc b) else .bad) l))
      cases hb : notSet b with
      | false => exact bad_
      | true =>
        have := cmp_tt (pos := p) o.K o.un (o := cm op) (inMarks hb) (S.o o a) (S.o o b)
        rw [cm_map] at this
        exact this
    | [op, op'], [b, d] =>
      show PT X _ (TTe Z c W (testF (if notSet d then .chain (cm op) (cm op') (tr n tc a) (tr n tc b) (tr n tc d) else .bad) l))
      cases hb : notSet d with
      | false => exact bad_
      | true =>
        have := tt_of_chain (pos := p) o.K o.un (o := cm op) (o' := cm op') hb (S.o o a) (S.o o b).pe (S.o o d)
        rw [cm_map, cm_map] at this
        exact this
    | [], [] => exact bad_
    | [], _ :: _ => exact bad_
    | [_], [] => exact bad_
    | [_], _ :: _ :: _ => exact bad_
    | [_, _], [] => exact bad_
    | [_, _], [_] => exact bad_
    | [_, _], _ :: _ :: _ :: _ => exact bad_
    | _ :: _ :: _ :: _, _ => exact bad_
  | _ => first | exact gen fun _ => rfl | exact bad_
theorem se_succ (hL : LamH bb Z) (hH : HotH bb Z) (S : SE bb Z n) : SE bb Z (n + 1) where
  o := fun o e => (step_o hL hH S o e).1
  f := fun o e => (step_o hL hH S o e).2
  t := fun o e => step_t hL hH S o e
  es := fun o es => step_es S o es
  bs := fun o es h => step_bs S o es h
  bz := .inl rfl
  iv := fun o e kv h => step_iv S o e kv h
  oo := fun o e => by
    cases e with
    | none => exact po_of_none
    | some e => exact po_of_some (S.o o e).pe
  b := fun o op vs pos => step_b S o op vs pos
  c := fun o x as p pos => step_c hL S o x as p pos
  m := fun o ob m as ap pos h => mkMeth_ok o (fun e => S.o o e) ob m as ap pos h _ rfl
  i := by intro X tc l c W k o m tc' tg tt h e h1 h2; exact step_i S o e h1 h2
theorem se_all (hL : LamH bb Z) (hH : HotH bb Z) : ∀ n, SE bb Z n
  | 0 => se_zero
  | n + 1 => se_succ hL hH (se_all hL hH n)
end
end BF

/-! Snd25 -/
set_option Elab.async false
set_option linter.all false
set_option maxRecDepth 100000
set_option maxHeartbeats 4000000
namespace BF
open PySem L2

section
variable {bb : Bool} {B : Bs} {X : Cx} {Z : Wd} {tc : Tc} {l : Lv} {c : Pl} {W : WX} {k n : Nat}
theorem swap_eq {es vs : List Expr} {k1 k2 : Nat} {p1 p2 : Pos} {env : Env} (hk : env.scope.kind = .function) {o : Option (List Str)} (h : swapM env.scope es vs = some o) : swappedStores [.Tuple es k1 p1] (.Tuple vs k2 p2) env = pure o := by
  have hb : (env.blockKind != .function) = false := by unfold Env.blockKind; rw [hk]; rfl
  unfold swapM at h
  unfold swappedStores
  simp only [hb, Bool.or_false, Env.kindOf]
  by_cases h1 : (!(es.length == 2 || es.length == 3) || vs.length != es.length) = true
  · rw [if_pos h1] at h
    rw [if_pos h1]
    cases h; rfl
  · rw [if_neg h1] at h
    rw [if_neg h1]
    split at h
    · rename_i h2
      refine (if_pos h2).trans ?_
      cases h; rfl
    · rename_i h2
      refine (if_neg h2).trans ?_
      dsimp only at h
      split at h
      · rename_i h3
        refine (if_pos h3).trans ?_
        cases h; rfl
      · rename_i h3
        refine (if_neg h3).trans ?_
        split at h
        · rename_i h4
          refine (if_pos h4).trans ?_
          cases h; rfl
        · rename_i h4
          refine (if_neg h4).trans ?_
          split at h
          · cases h
          · rename_i h5
            refine (if_neg h5).trans ?_
            cases h; rfl
structure OkS (bb : Bool) (X : Cx) (Z : Wd) (tc : Tc) (l : Lv) (c : Pl) (W : WX) (k : Nat) (B : Bs) : Prop where
  ok : Ok bb X Z tc l c W k
  hB : BsOk Z B c
  np : ∀ i ∈ B.ms, i < tc.np
  fr : l.fr = B.fr
  n : B.n = tc.N.length
  fn : ∀ x, X.fn x = true
  hp : tc.hld = none → PassesOwn (model X.prog X.w) X.A X.env X.xe
  hs : tc.hld = none → X.stack = X.env :: X.outer
  hf : X.env.frame = some X.env.locals
  kind : tc.sc.kind = .function
  h0 : tc.hld = none → c.hold = none
  sb : l.sub = Z.sub
  act : tc.hld = none → ∀ (x : Str) (p pos pos' : Pos), okNm x = true → tc.vis x = true → tc.slot x = some 0 → 0 ∈ tc.bor → ∀ pn xe W', L2N.Takes (X.tr pn xe) W' → PS (X.tr pn xe) (.Expr (.Call (.Name x p) [] [] pos) pos') (TSe B Z c W' (ex .acts l))
theorem OkS.st (o : OkS bb X Z tc l c W k B) (S : List Nat) : StOk X S := fun x _ _ _ _ => .inl (o.fn x)
theorem OkS.tr (o : OkS bb X Z tc l c W k B) (hh : tc.hld = none) {W' : WX} {pn : List (Addr × Obj)} {xe : Value → Shared → Prop} (tk : L2N.Takes (X.tr pn xe) W') (hp : PassesOwn (model X.prog X.w) X.A X.env xe) : OkS bb (X.tr pn xe) Z tc l c W' k B where
  ok := {
    K := o.ok.K, N := o.ok.N, nd := o.ok.nd, sc := o.ok.sc, own := o.ok.own, bor := o.ok.bor, hold := o.ok.hold, lown := o.ok.lown
    tk := tk
    un := o.ok.un
    calm := o.ok.calm
    hot := fun i h => by rw [hh] at h; cases h
    fns := o.ok.fns, con := o.ok.con, blt := o.ok.blt
    exc := fun x i h => let q := o.ok.exc x i h; ⟨q.mg, q.keep, q.base, q.rs⟩
    call := fun f fd h => ⟨(o.ok.call f fd h).ex⟩
    call2 := fun F h => let ⟨k2, h1, h2⟩ := o.ok.call2 F h; ⟨k2, h1, fun f fd q => ⟨(h2 f fd q).ex⟩⟩
    lam := o.ok.lam
    lb := o.ok.lb
    gb := o.ok.gb
    defs := o.ok.defs
    hd := o.ok.hd }
  hB := o.hB
  np := o.np
  fr := o.fr
  n := o.n
  fn := o.fn
  hp := fun _ => hp
  hs := o.hs
  hf := o.hf
  kind := o.kind
  h0 := o.h0
  sb := o.sb
  act := fun h x p pos pos' h1 h2 h3 h4 pn' xe' W2 tk2 => o.act h x p pos pos' h1 h2 h3 h4 pn' xe' W2 tk2
theorem OkS.suite (o : OkS bb X Z tc l c W k B) (hh : tc.hld = none) {i : Nat} (hi : tc.res i = false) {k' : Nat} {a : Addr} {oe : Obj} {pn : List (Addr × Obj)} (hz : L2N.Zn (.ref (Z.cad k')) none oe) (hv : ∃ vs, oe.data = .fields vs) :
    OkS bb (X.suite a ((a, oe) :: pn)) Z { tc with hld := some i, hx := true } { l with hld := some k' } (holdC c i a) W0 k B where
  ok := {
    K := o.ok.K, N := o.ok.N, nd := o.ok.nd, sc := o.ok.sc, own := o.ok.own, bor := o.ok.bor
    hold := fun j v h => by
      have h : some (i, V.ref a) = some (j, v) := h
      cases h; rfl
    lown := o.ok.lown
    tk := takesN0
    un := o.ok.un
    calm := fun h => nomatch h
    hot := fun j h _ => by
      have h : some i = some j := h
      cases h
      obtain ⟨vs, hv'⟩ := hv
      have hx : ExcC X.K (Z.cad k') := by rw [o.ok.K]; exact o.ok.gb.excC k'
      refine ⟨⟨(a, oe), ⟨rfl, vs, hv', hz.2.2 vs hv'⟩, List.mem_cons_self⟩, a, k', rfl, rfl, call_isE hx hz.zc ⟨vs, hv'⟩, fun y j hj => ?_⟩
      show PySem.W.kitOne X.K _ _ = _
      rw [o.ok.K]
      have hk := o.ok.gb.exk y j hj k'
      rw [← o.sb] at hk
      exact hk
    fns := o.ok.fns, con := o.ok.con, blt := o.ok.blt
    exc := fun x i h => let q := o.ok.exc x i h; ⟨q.mg, q.keep, q.base, q.rs⟩
    call := fun f fd h => ⟨(o.ok.call f fd h).ex⟩
    call2 := fun F h => let ⟨k2, h1, h2⟩ := o.ok.call2 F h; ⟨k2, h1, fun f fd q => ⟨(h2 f fd q).ex⟩⟩
    lam := o.ok.lam
    lb := o.ok.lb
    gb := o.ok.gb
    defs := o.ok.defs
    hd := o.ok.hd }
  hB := ⟨o.hB.dom, o.hB.hM, o.hB.ms, o.hB.hd⟩
  np := o.np
  fr := o.fr
  n := o.n
  fn := o.fn
  hp := fun h => nomatch h
  hs := fun h => nomatch h
  hf := o.hf
  kind := o.kind
  h0 := fun h => nomatch h
  sb := o.sb
  act := fun h => nomatch h
/-! ### name = value -/
theorem swap_lc {elt : Expr} {gs : List Comprehension} {scope : Scope} {pos py : Pos} {y : Str} {m : Nat} {env : Env} : ∃ b, swapsWith (.ListComp elt gs scope pos) (some (.Name y py)) m env = pure b ∧ (b = true → env.scope.names.lookup y = some .local) := by
  refine ⟨_, rfl, fun h => ?_⟩
  simp only [Bool.and_eq_true, beq_iff_eq] at h
  exact h.1.1.2
theorem ts_asgv {i : Nat} {kk : E} {s : Stmt} (hB : BsOk Z B c) (f : FreeS c i) (h : PS X s (tAsg (TEe Z c W (tP Z) (ev kk l)) (gName i))) : PS X s (TSe B Z c W (ex (.asg (.var i) kk) l)) :=
  h.weak fun D σ H ⟨O, σd, hr, j, g⟩ => by
    have g : GoS B Z c W ((ev kk l σd).bind fun p => .ok (.nx, p.2.set i (some p.1))) O H D := g
    refine ⟨O, σd, hr, (GoS.go (r := ev kk l σd) hr j g).imp fun d σ1 H1 _ r1 k1 g v rv => ?_⟩
    have j1 := j.keepE k1
    exact GoS.done (g r1 j1 k1) (r1.setP f rv) (j1.same (SameS.set (vs := [i]) (by simp)) (fun v hv => by rw [List.mem_singleton.mp hv]; exact f) hB) (hr.le k1)
theorem swappedName {x : Str} {p : Pos} {v : Expr} {env : Env} : swappedStores [.Name x p] v env = pure none := by
  cases v <;> rfl
/-- the value stored: v no comprehension, or one -/
theorem ps_nm (hL : LamH bb Z) (hH : HotH bb Z) (o : OkS bb X Z tc l c W k B) {n : Nat} {x : Str} {p pos : Pos} {v : Expr} {i : Nat} (hs : tc.slot x = some i) (hx : Loc X.env.scope x) (hn : notLcT v = true ∨ tc.hld = none) :
    PS X (.Assign [.Name x p] v pos) (tAsg (TEe Z c W (tP Z) (ev (tr n tc v) l)) (gName i)) ∧ (freshE (frOf l.tb) (tr n tc v) = true → PS X (.Assign [.Name x p] v pos) (tAsg (TFe Z c W (ev (tr n tc v) l)) (gName i))) := by
  have S := se_all (Z := Z) hL hH n
  have hN : X.N.Nodup := by rw [o.ok.N]; exact o.ok.nd
  have hi := o.ok.at_ hs
  have plain : ∀ (te : TE), PE X v te → swapsWith v (some (.Name x p)) pos.line X.env = pure false → PS X (.Assign [.Name x p] v pos) (tAsg te (gName i)) := fun te he h => ps_set hN hi hx he h (.inl (o.fn x))
  by_cases hl : notLc v = true
  · exact ⟨plain _ (S.o o.ok v).pe (BF.swaps_no hl), fun h => plain _ (S.f o.ok v h) (BF.swaps_no hl)⟩
  · have bad_ : ∀ {P : TS}, (∀ D σ H, ¬ P D σ H) → PS X (.Assign [.Name x p] v pos) P := fun h => .none h
    cases v with
    | ListComp elt gs scope lp =>
      have hh : tc.hld = none := hn.elim (fun h => by simp [notLcT] at h) id
      have main : PS X (.Assign [.Name x p] (.ListComp elt gs scope lp) pos) (tAsg (TFe Z c W (ev (tr n tc (.ListComp elt gs scope lp)) l)) (gName i)) := by
        obtain ⟨b, hb, hloc⟩ := swap_lc (elt := elt) (gs := gs) (scope := scope) (pos := lp) (py := p) (y := x) (m := pos.line) (env := X.env)
        cases n with
        | zero => exact .none fun D σ H ⟨O, σd, _, q⟩ => q
        | succ n =>
          have S := se_all (Z := Z) hL hH n
          cases b with
          | false => exact plain _ (step_lc hH S o.ok elt gs scope lp) hb
          | true => exact mkLc_ps o.ok hh hi (hloc rfl) (m := n) rfl (fun o' => (S.o o' elt).pe) (fun e h1 h2 => S.i o.ok e h1 h2) (fun e kv h => S.iv o.ok e kv h) (fun o' e => S.t o' e) gs scope lp hb _ rfl
      refine ⟨main.weak fun D σ H ⟨O, σd, hr, hg⟩ => ⟨O, σd, hr, hg.imp fun d σ1 H1 _ _ _ q v _ rv => q v rv⟩, fun _ => main⟩
    | SetComp a b d e => cases n <;> exact ⟨.none fun D σ H ⟨O, σd, _, q⟩ => q, fun h => by cases h⟩
    | DictComp a b d e f => cases n <;> exact ⟨.none fun D σ H ⟨O, σd, _, q⟩ => q, fun h => by cases h⟩
    | _ => exact absurd rfl hl
end
end BF

/-! ParO -/
set_option Elab.async false
set_option linter.all false
set_option maxRecDepth 100000
set_option maxHeartbeats 4000000
/-! a, b = x, y where a place of one's own takes a new container -/
namespace BF
open PySem L2

section
variable {B : Bs} {Z : Wd} {c : Pl} {W : WX} {O O1 : Addr → Prop} {σ : L2.St} {σd : Sd} {H H' : Hp} {X : Cx} {l : Lv}
def lkL (c : Pl) (as : List Addr) : Pl := { c with lock := fun b => c.lock b ∨ b ∈ as }
def plL (O : Addr → Prop) (as : List Addr) : Addr → Prop := fun b => O b ∨ b ∈ as
theorem lkL_nil : lkL c [] = c := by
  obtain ⟨a, b, d, e⟩ := c
  unfold lkL
  congr 1
  funext x
  simp
theorem plL_nil : plL O [] = O := by funext x; simp [plL]
theorem lkL_cons (a : Addr) (as : List Addr) : lkL (lk c a) as = lkL c (a :: as) := by
  obtain ⟨p, q, d, e⟩ := c
  unfold lkL lk plus
  congr 1
  funext x
  simp [or_assoc]
theorem plL_cons (a : Addr) (as : List Addr) : plL (plus O a) as = plL O (a :: as) := by
  funext x
  simp [plL, plus, or_assoc]
theorem lkL_lk (a : Addr) (as : List Addr) : lk (lkL c as) a = lkL c (a :: as) := by
  obtain ⟨p, q, d, e⟩ := c
  unfold lkL lk plus
  congr 1
  funext x
  simp only [List.mem_cons]
  exact propext ⟨fun h => h.elim (fun h => h.elim .inl fun h => .inr (.inr h)) fun h => .inr (.inl h), fun h => h.elim (fun h => .inl (.inl h)) fun h => h.elim .inr fun h => .inl (.inr h)⟩
/-- what was told: own places' containers in order -/
inductive GotR (Z : Wd) (H : Hp) (G : Hp) : List Bool → List D → List V → List Addr → Prop
  | nil : GotR Z H G [] [] [] []
  | plain {fl ds vs as} {b : Bool} {d : D} {v : V} : (b = true → isContainer d = false) → Rep Z G d v → GotR Z H G fl ds vs as → GotR Z H G (b :: fl) (d :: ds) (v :: vs) as
  | own {fl ds vs as} {d : D} {a : Addr} : Cont Z H G d a → GotR Z H G fl ds vs as → GotR Z H G (true :: fl) (d :: ds) (.ref a :: vs) (a :: as)
/-- the reading of such values -/
def TAg (Z : Wd) (c : Pl) (W : WX) (fl : List Bool) (f : Sd → R (List D × Sd)) : TA := fun σ H Q => ∃ O σd, RelS Z c O σd σ H ∧ Go Z c W (f σd) O σ H fun ds σd' H' => ∀ vs as, as.Nodup → (∀ a ∈ as, Fre H a) → GotR Z H' (hide H' (plL O as)) fl ds vs as → RelS Z (lkL c as) (plL O as) σd' σ H' → Q vs H'
theorem Go.locked {β : Type} {r : R (β × Sd)} {K : β → Sd → Hp → Prop} {a : Addr} (h : Go Z c W r O σ H K) (ho : ∀ i ∈ c.own, ∀ b, σ[i]? = some (some (.ref b)) → O b) : Go Z (lk c a) W r (plus O a) σ H K := by
  cases r with
  | ok q => exact fun H' hr hk => h H' (hr.unlock ho) hk
  | exc k => exact fun H' hr hk => h H' (hr.unlock ho) hk
  | bad => exact h
theorem pa_exC {es : List Expr} {t : Pl → TA} {P : Pl → Prop} (h : ∀ c', P c' → PA X es (t c')) : PA X es (fun σ H Q => ∃ c', P c' ∧ t c' σ H Q) := ⟨fun pos pins s σ H Q I ⟨c', hp, q⟩ => (h c' hp).run pos pins s σ H Q I q⟩
/-- the same but for what is locked -/
def SameP (c c' : Pl) : Prop := c'.own = c.own ∧ c'.bor = c.bor ∧ c'.hold = c.hold
theorem SameP.refl : SameP c c := ⟨rfl, rfl, rfl⟩
theorem SameP.lk {c' : Pl} (h : SameP c c') (a : Addr) : SameP c (lk c' a) := h
theorem pg_nil : PA X [] (TAg Z c W [] (evs .nil l)) := pa_nil.weak fun σ H Q ⟨O, σd, hr, hg⟩ => hg.ok hr KeepE.refl [] [] List.nodup_nil (fun _ h => nomatch h) .nil (by rw [lkL_nil, plL_nil]; exact hr)
/-- new ones stay apart -/
theorem le_past {c1 : Pl} {O1 : Addr → Prop} {σd' : Sd} {H1 : Hp} {as : List Addr} (r : RelS Z c1 O1 σd' σ H1) (k : KeepE c1 σ H1 H') (n : ∀ a ∈ as, Fre H1 a) : Le (hide H1 O1) (hide H' (plL O1 as)) :=
  hide_mono fun x o e t nx => ⟨k x o e t (r.notOwn nx), fun z => z.elim nx fun z => n x z o e t⟩
theorem pg_plain {e : Expr} {es : List Expr} {k : E} {ks : Es} {fl : List Bool} (h : PE X e (TEe Z c W (tP Z) (ev k l))) (t : PA X es (TAg Z c W fl (evs ks l))) (hs : starEach (e :: es) X.env = (false, eval e X.env) :: starEach es X.env) :
    PA X (e :: es) (TAg Z c W (false :: fl) (evs (.cons k ks) l)) :=
  (pa_cons h t hs).weak fun σ H Q ⟨O, σd, hr, hg⟩ =>
    ⟨O, σd, hr, (Go.bind (r := ev k l σd) hg).imp fun d σ1 H1 _ r1 k1 g v rv => ⟨O, σ1, r1, (Go.bind (r := evs ks l σ1) g).imp fun ds σ2 H2 _ r2 k2 g2 vs as nd fr got rel =>
      g2.ok r2 KeepE.refl (v :: vs) as nd (fun a ha => hr.back r1 k1 (fr a ha)) (.plain (fun z => nomatch z) (rv.le (le_past r1 k2 fr)) got) rel⟩⟩
theorem pg_own {e : Expr} {es : List Expr} {k : E} {ks : Es} {fl : List Bool} (h : PE X e (TFe Z c W (ev k l))) (t : ∀ c', SameP c c' → PA X es (TAg Z c' W fl (evs ks l))) (hs : starEach (e :: es) X.env = (false, eval e X.env) :: starEach es X.env) :
    PA X (e :: es) (TAg Z c W (true :: fl) (evs (.cons k ks) l)) :=
  (pa_cons h (pa_exC (P := SameP c) t) hs).weak fun σ H Q ⟨O, σd, hr, hg⟩ => by
    refine ⟨O, σd, hr, (Go.bind (r := ev k l σd) hg).imp fun d σ1 H1 _ r1 k1 g v fv rv => ?_⟩
    by_cases hd : isContainer d = true
    · obtain ⟨a, rfl, fa, ct, ra⟩ := fv hd
      have g1 := (Go.bind (r := evs ks l σ1) g)
      refine ⟨lk c a, SameP.refl.lk a, plus O a, σ1, ra, (g1.locked (a := a) r1.own).imp fun ds σ2 H2 _ r2 k2 g2 vs as nd fr got rel => ?_⟩
      have na : NotOwn c σ a := fun i hi e => by
        obtain ⟨o, e1, t1⟩ := hr.dom a (hr.own i hi a e)
        exact fa o e1 t1
      have hne : a ∉ as := fun z => by
        have f := fr a z
        cases d with
        | lst xs => obtain ⟨vs, e, _⟩ := ct; exact f _ e nt_lst
        | dic xs => obtain ⟨vs, e, _⟩ := ct; exact f _ e nt_dK
        | _ => exact ct.elim
      have r2' : RelS Z c O σ2 σ H2 := r2.unlock r1.own
      rw [lkL_cons, plL_cons] at rel
      rw [plL_cons] at got
      refine g2.ok r2' KeepE.refl (.ref a :: vs) (a :: as) (List.nodup_cons.mpr ⟨hne, nd⟩) (fun b hb => ?_) (.own ?_ got) rel
      · rcases List.mem_cons.mp hb with rfl | hb
        · exact fa
        · exact hr.back r1 k1 (fr b hb)
      · have l1 := le_past (as := as) ra k2 fr
        rw [plL_cons] at l1
        exact ct.monoN l1 fun o eo t => k2 a o eo t na
    · refine ⟨c, SameP.refl, O, σ1, r1, (Go.bind (r := evs ks l σ1) g).imp fun ds σ2 H2 _ r2 k2 g2 vs as nd fr got rel =>
        g2.ok r2 KeepE.refl (v :: vs) as nd (fun a ha => hr.back r1 k1 (fr a ha)) (.plain (fun _ => by simpa using hd) (rv.le (le_past r1 k2 fr)) got) rel⟩
/-! ### the stores -/
def setV : List Nat → List V → L2.St → L2.St
  | i :: is, v :: vs, σ => setV is vs (σ.set i (some v))
  | _, _, σ => σ
theorem GotR.flags {fl : List Bool} {ds : List D} {vs : List V} {as : List Addr} {G : Hp} (g : GotR Z H G fl ds vs as) : vs.length = fl.length ∧ ds.length = fl.length := by
  induction g with
  | nil => exact ⟨rfl, rfl⟩
  | plain _ _ _ ih => simp [ih]
  | own _ _ ih => simp [ih]
/-- one's own slot takes a container that is locked -/
theorem RelS.setO {a : Addr} {i : Nat} {d : D} (r : RelS Z (lk c a) O σd σ H) (hO : O a) (hi : i ∈ c.own) (na : NotOwn c σ a) (hh : ∀ v, c.hold ≠ some (i, v)) (ct : Cont Z H (hide H O) d a) : RelS Z c O (σd.set i (some d)) (σ.set i (some (.ref a))) H := by
  have cases_ : ∀ {j : Nat} {b : Addr}, (σ.set i (some (V.ref a)))[j]? = some (some (.ref b)) → (j = i ∧ b = a) ∨ (j ≠ i ∧ σ[j]? = some (some (.ref b))) := fun {j b} e => by
    rcases set_some e with ⟨rfl, e1, _⟩ | z
    · simp at e1; exact .inl ⟨rfl, e1.symm⟩
    · exact .inr z
  refine ⟨by simp [r.len], r.dom, r.tab, fun j hj b e => ?_, fun j hj k hk b e e' => ?_, fun j d' e => ?_, fun j w hw => ?_⟩
  · rcases cases_ e with ⟨_, rfl⟩ | ⟨_, e⟩
    · exact hO
    · exact r.own j hj b e
  · rcases cases_ e with ⟨rfl, rfl⟩ | ⟨n1, e2⟩
    · rcases cases_ e' with ⟨rfl, _⟩ | ⟨_, e'⟩
      · rfl
      · exact absurd e' (na k hk)
    · rcases cases_ e' with ⟨rfl, rfl⟩ | ⟨_, e3⟩
      · exact absurd e2 (na j hj)
      · exact r.inj j hj k hk b e2 e3
  · rcases set_some e with ⟨rfl, e1, o, eo⟩ | ⟨ne, e1⟩
    · cases e1
      exact ⟨.ref a, set_at (m := []) r.len eo _, fun _ => ⟨a, rfl, ct⟩, fun z => absurd hi z, fun z => absurd hi z⟩
    · obtain ⟨w, h1, h2, h3, h4⟩ := r.slot j d' e1
      refine ⟨w, by rw [List.getElem?_set_ne (Ne.symm ne)]; exact h1, h2, fun z1 z2 => ?_, h4⟩
      rcases h3 z1 z2 with q | ⟨b, eb, ob, nb, cb⟩
      · exact .inl q
      · refine .inr ⟨b, eb, ob, ⟨fun k hk e => ?_, fun z => nb.2 (.inl z)⟩, cb⟩
        rcases cases_ e with ⟨_, rfl⟩ | ⟨_, e⟩
        · exact nb.2 (.inr rfl)
        · exact nb.1 k hk e
  · have ne : i ≠ j := fun z => hh w (by rw [z]; exact hw)
    rw [List.getElem?_set_ne ne]
    exact r.hold j w hw
theorem J.setO {a : Addr} {i : Nat} (j : J B c O σ H) (hB : BsOk Z B c) (hi : i ∈ c.own) (hm : i ∉ B.ms) (ha : Fre B.H0 a) : J B c O (σ.set i (some (.ref a))) H := by
  refine ⟨j.sub, j.new, j.keep, fun k hk b e => ?_, outsAt_same (SameS.set (vs := [i]) (by simp)) (fun k hk z => hm ((List.mem_singleton.mp z) ▸ hk)) j.ms, by rw [List.length_set]; exact j.len, fun v hv => by rw [List.getElem?_set_ne (fun (z : i = 0) => (hB.hd v hv).2 (z ▸ hi))]; exact j.hd v hv⟩
  rcases set_some e with ⟨rfl, e1, _⟩ | ⟨ne, e1⟩
  · simp at e1; rw [← e1]; exact .inr ha
  · exact j.own k hk b e1
theorem J.more {as : List Addr} (j : J B c O σ H) (ha : ∀ a ∈ as, Fre B.H0 a) : J B c (plL O as) σ H :=
  ⟨fun b h => .inl (j.sub b h), fun b o e t n z => z.elim (j.new b o e t n) fun z => ha b z o e t, j.keep, j.own, j.ms, j.len, j.hd⟩
theorem FreeS.lkL {i : Nat} (f : FreeS c i) (as : List Addr) : FreeS (lkL c as) i := f
/-- all stores -/
theorem par_set (hB : BsOk Z B c) : ∀ {is : List (Nat × Bool)} {ds : List D} {vs : List V} {as : List Addr} {σd σd' : Sd} {σ : L2.St}, GotR Z H (hide H O) (is.map (·.2)) ds vs as → RelS Z (lkL c as) O σd σ H → J B c O σ H → as.Nodup → (∀ a ∈ as, O a ∧ NotOwn c σ a ∧ Fre B.H0 a) →
    (∀ q ∈ is, (q.2 = false → FreeS c q.1) ∧ (q.2 = true → q.1 ∈ c.own ∧ q.1 ∉ B.ms ∧ ∀ v, c.hold ≠ some (q.1, v))) → setAll is ds σd = .ok σd' → RelS Z c O σd' (setV (is.map (·.1)) vs σ) H ∧ J B c O (setV (is.map (·.1)) vs σ) H
  | [], ds, vs, as, σd, σd', σ, g, r, j, _, _, _, e => by
    cases g
    simp [setAll] at e
    subst e
    rw [lkL_nil] at r
    exact ⟨r, j⟩
  | (i, b) :: is, ds, vs, as, σd, σd', σ, g, r, j, nd, hn, hq, e => by
    have hq0 := hq (i, b) List.mem_cons_self
    have hq' := fun q h => hq q (List.mem_cons_of_mem _ h)
    cases g with
    | plain n rv g =>
      rename_i ds vs d v
      cases b with
      | true =>
        exfalso
        simp [setAll, n rfl] at e
      | false =>
        have f := hq0.1 rfl
        simp only [setAll, Bool.false_and, Bool.false_eq_true, if_false] at e
        have sm : SameS [i] σ (σ.set i (some v)) := SameS.set (by simp)
        exact par_set hB (is := is) g (r.setP (f.lkL as) rv) (j.same sm (fun v hv => by rw [List.mem_singleton.mp hv]; exact f) hB) nd (fun a ha => ⟨(hn a ha).1, (notOwn_set f.1).mpr (hn a ha).2.1, (hn a ha).2.2⟩) hq' e
    | own ct g =>
      rename_i ds vs as d a
      obtain ⟨h1, h2, h3⟩ := hq0.2 rfl
      obtain ⟨n1, n2⟩ := List.nodup_cons.mp nd
      obtain ⟨oa, na, fa⟩ := hn a List.mem_cons_self
      have hd : isContainer d = true := by
        cases d with
        | lst xs => rfl
        | dic xs => rfl
        | _ => exact ct.elim
      simp only [setAll, hd, Bool.not_true, Bool.and_false, Bool.false_eq_true, if_false] at e
      rw [← lkL_lk] at r
      have r2 : RelS Z (lkL c as) O (σd.set i (some d)) (σ.set i (some (.ref a))) H := r.setO oa h1 na h3 ct
      exact par_set hB (is := is) g r2 (j.setO hB h1 h2 fa) n2 (fun b hb => ⟨(hn b (List.mem_cons_of_mem _ hb)).1, fun k hk ek => by
        rcases set_some ek with ⟨rfl, e1, _⟩ | ⟨_, e1⟩
        · simp at e1
          exact n1 (e1 ▸ hb)
        · exact (hn b (List.mem_cons_of_mem _ hb)).2.1 k hk e1, (hn b (List.mem_cons_of_mem _ hb)).2.2⟩) hq' e
theorem TAg.imp {fl : List Bool} {f : Sd → R (List D × Sd)} {Q Q' : List V → Hp → Prop} (h : TAg Z c W fl f σ H Q) (i : ∀ vs H', Q vs H' → Q' vs H') : TAg Z c W fl f σ H Q' := by
  obtain ⟨O, σd, hr, g⟩ := h
  exact ⟨O, σd, hr, g.imp fun ds σ1 H1 _ _ _ q vs as nd fr got rel => i _ _ (q vs as nd fr got rel)⟩
theorem GotR.le {G G' : Hp} {fl : List Bool} {ds : List D} {vs : List V} {as : List Addr} (g : GotR Z H G fl ds vs as) (l1 : Le H H') (l2 : Le G G') : GotR Z H' G' fl ds vs as := by
  induction g with
  | nil => exact .nil
  | plain n r _ ih => exact .plain n (r.le l2) ih
  | own ct _ ih => exact .own (ct.mono l2 fun o e => l1 _ o e) ih
theorem setAll_neE : ∀ (is : List (Nat × Bool)) (ds : List D) (σ : Sd) (k : Nat), setAll is ds σ ≠ .exc k := setAll_ne
/-- what a statement that stores so does -/
theorem par_stm {is : List (Nat × Bool)} {ks : Es} {s : Stmt} (hB : BsOk Z B c) (hq : ∀ q ∈ is, (q.2 = false → FreeS c q.1) ∧ (q.2 = true → q.1 ∈ c.own ∧ q.1 ∉ B.ms ∧ ∀ v, c.hold ≠ some (q.1, v)))
    (h : parOk (frOf l.tb) is ks = true → PS X s (fun D σ H => TAg Z c W (is.map (·.2)) (evs ks l) σ H fun vs H1 => vs.length = is.length ∧ ∀ H2, Le H1 H2 → D.nx (setV (is.map (·.1)) vs σ) H2)) : PS X s (TSe B Z c W (ex (.par is ks) l)) := by
  by_cases hp : parOk (frOf l.tb) is ks = true
  · refine (h hp).weak fun D σ H ⟨O, σd, hr, jj, g⟩ => ?_
    have g : GoS B Z c W (if parOk (frOf l.tb) is ks = true then (evs ks l σd).bind fun p => (setAll is p.1 p.2).bind fun σ' => .ok (.nx, σ') else .bad) O H D := g
    rw [if_pos hp] at g
    refine ⟨O, σd, hr, (GoS.go (r := evs ks l σd) hr jj g).imp fun ds σ1 H1 _ r1 k1 g vs as nd fr got rel => ⟨?_, fun H2 l2 => ?_⟩⟩
    · have := got.flags.1
      simpa using this
    have j1 := jj.keepE k1
    obtain ⟨σ2, e2, g⟩ := (g r1 j1 k1).pure (setAll_ne _ _ _)
    have hm : Le (hide H1 (plL O as)) (hide H2 (plL O as)) := hide_mono fun b o e t n => ⟨l2 b o e, n⟩
    have rel2 := rel.grow l2
    have j2 : J B c (plL O as) σ H2 := (J.more ⟨j1.sub, j1.new, fun b o e t n => l2 b o (j1.keep b o e t n), j1.own, j1.ms, j1.len, j1.hd⟩ fun a ha => Fre.back jj hr.dom (fun b hb => jj.sub b (hB.hM b hb)) (fr a ha))
    obtain ⟨r3, j3⟩ := par_set hB (got.le l2 hm) rel2 j2 nd (fun a ha => ⟨.inr ha, fun i hi e => by
      obtain ⟨o, e1, t1⟩ := hr.dom a (hr.own i hi a e)
      exact fr a ha o e1 t1, Fre.back jj hr.dom (fun b hb => jj.sub b (hB.hM b hb)) (fr a ha)⟩) hq e2
    exact GoS.done g r3 j3 (hide_mono fun b o e t n => ⟨l2 b o (k1 b o e t (hr.notOwn n)), fun z => z.elim n fun z => fr b z o e t⟩)
  · refine .none fun D σ H ⟨O, σd, _, _, q⟩ => ?_
    have q : GoS B Z c W (if parOk (frOf l.tb) is ks = true then (evs ks l σd).bind fun p => (setAll is p.1 p.2).bind fun σ' => .ok (.nx, σ') else .bad) O H D := q
    rw [if_neg hp] at q
    exact q
end
section
variable {bb : Bool} {B : Bs} {X : Cx} {Z : Wd} {tc : Tc} {l : Lv} {c : Pl} {W : WX} {k n : Nat}
theorem Ok.same {c' : Pl} (o : Ok bb X Z tc l c W k) (h : SameP c c') : Ok bb X Z tc l c' W k where
  K := o.K
  N := o.N
  nd := o.nd
  sc := o.sc
  own := h.1.trans o.own
  bor := h.2.1.trans o.bor
  hold := fun i v e => o.hold i v (by rw [← h.2.2]; exact e)
  lown := o.lown
  tk := o.tk
  un := o.un
  calm := o.calm
  hot := fun i h1 h2 => by rw [h.2.2]; exact o.hot i h1 h2
  fns := o.fns
  con := o.con
  blt := o.blt
  exc := o.exc
  call := o.call
  call2 := o.call2
  lam := o.lam
  lb := o.lb
  gb := o.gb
  defs := o.defs
  hd := o.hd
/-- the values of such a statement -/
theorem pg_trs (hS : ∀ n, SE bb Z n) : ∀ (n : Nat) (is : List (Nat × Bool)) (es : List Expr) {c : Pl}, Ok bb X Z tc l c W k → parOk (frOf l.tb) is (trs n tc es) = true → PA X es (TAg Z c W (is.map (·.2)) (evs (trs n tc es) l))
  | 0, is, es, c, o, h => .none fun σ H Q ⟨O, σd, _, q⟩ => q
  | n + 1, [], [], c, o, h => pg_nil
  | n + 1, _ :: _, [], c, o, h => by cases h
  | n + 1, [], e :: es, c, o, h => by cases h
  | n + 1, i :: is, e :: es, c, o, h => by
    have h : ((!i.2 || freshE (frOf l.tb) (tr n tc e)) && parOk (frOf l.tb) is (trs n tc es)) = true := h
    simp only [Bool.and_eq_true, Bool.or_eq_true, Bool.not_eq_true'] at h
    show PA X (e :: es) (TAg Z c W (i.2 :: is.map (·.2)) (evs (.cons (tr n tc e) (trs n tc es)) l))
    rcases star_or e with hs | ⟨z, p, rfl⟩
    · cases hi : i.2 with
      | false => exact pg_plain ((hS n).o o e).pe (pg_trs hS n is es o h.2) (star_cons hs)
      | true =>
        have hf : freshE (frOf l.tb) (tr n tc e) = true := by
          rcases h.1 with q | q
          · rw [hi] at q; cases q
          · exact q
        exact pg_own ((hS n).f o e hf) (fun c' hc => pg_trs hS n is es (o.same hc) h.2) (star_cons hs)
    · have e0 : tr n tc (.Starred z p) = .bad := by cases n <;> rfl
      rw [e0]
      exact .none fun σ H Q ⟨O, σd, _, q⟩ => q
end
end BF

/-! Snd26 -/
set_option Elab.async false
set_option linter.all false
set_option maxRecDepth 100000
set_option maxHeartbeats 4000000
namespace BF
open PySem L2

section
variable {bb : Bool} {B : Bs} {X : Cx} {Z : Wd} {tc : Tc} {l : Lv} {c : Pl} {W : WX} {k n : Nat}
theorem st_bad {s : Stmt} : PS X s (TSe B Z c W (ex .bad l)) := .none fun D σ H ⟨O, σd, _, _, q⟩ => q
theorem notLcT_eq : notLcT = notLc := by funext e; cases e <;> rfl
theorem isTup_no {v : Expr} (h : isTup v = none) {es : List Expr} {k1 : Nat} {p1 : Pos} {env : Env} : swappedStores [.Tuple es k1 p1] v env = pure none := by
  cases v <;> first | rfl | (simp [isTup] at h)
theorem isTup_some {v : Expr} {vs : List Expr} (h : isTup v = some vs) : ∃ k p, v = .Tuple vs k p := by
  cases v <;> simp [isTup] at h
  subst h; exact ⟨_, _, rfl⟩
theorem plc_1 (o : OkS bb X Z tc l c W k B) {x : Str} {i : Nat} (h : plcOf tc x = some i) : X.N[i]? = some x ∧ X.env.scope.names.lookup x = some .local ∧ FreeS c i := by
  unfold plcOf at h
  split at h
  · rename_i hx
    simp only [Bool.and_eq_true, decide_eq_true_eq] at hx
    cases hs : tc.slot x with
    | none => rw [hs] at h; cases h
    | some j =>
      rw [hs] at h
      dsimp only at h
      split at h
      · cases h
      · rename_i hr
        cases h
        exact ⟨o.ok.at_ hs, by rw [o.ok.sc]; exact hx.2, res_no (by simpa using hr) o.ok⟩
  · cases h
theorem own_mem (o : OkS bb X Z tc l c W k B) {i : Nat} (h : tc.own.contains i = true) : i ∈ c.own := by rw [o.ok.own]; exact List.contains_iff_mem.mp h
theorem hold_no (o : OkS bb X Z tc l c W k B) {i : Nat} (h : (tc.hld == some i) = false) : ∀ v, c.hold ≠ some (i, v) := fun v e => by
  have := o.ok.hold i v e
  rw [this] at h; simp at h
mutual
theorem slots_res : ∀ (m : Nat) (e : Expr) (t : T), trT m tc e = some t → ∀ i ∈ slotsT t, tc.res i = false
  | 0, _, _, h, _, _ => by simp [trT] at h
  | m + 1, e, t, h, i, hi => by
    cases e <;> simp only [trT] at h <;> first | (cases h; done) | skip
    · split at h
      · split at h
        · split at h
          · cases h
          · rename_i hr
            cases h
            rename_i j _
            obtain rfl : i = j := by simpa [slotsT] using hi
            simpa using hr
        · cases h
      · cases h
    · obtain ⟨ts, e1, rfl⟩ := Option.map_eq_some_iff.mp h
      exact slots_ress m _ ts e1 i (by simpa [slotsT] using hi)
theorem slots_ress : ∀ (m : Nat) (es : List Expr) (ts : List T), trTs m tc es = some ts → ∀ i ∈ slotsTs ts, tc.res i = false
  | 0, _, _, h, _, _ => by simp [trTs] at h
  | m + 1, [], ts, h, i, hi => by simp [trTs] at h; subst h; simp [slotsTs] at hi
  | m + 1, e :: es, ts, h, i, hi => by
    simp only [trTs] at h
    cases h1 : trT m tc e with
    | none => rw [h1] at h; simp at h
    | some t =>
      cases h2 : trTs m tc es with
      | none => rw [h1, h2] at h; simp at h
      | some ts' =>
        rw [h1, h2] at h
        dsimp only at h
        cases h
        rcases (by simpa [slotsTs] using hi : i ∈ slotsT t ∨ i ∈ slotsTs ts') with z | z
        · exact slots_res m e t h1 i z
        · exact slots_ress m es ts' h2 i z
end
theorem slots_free (o : OkS bb X Z tc l c W k B) {m : Nat} {e : Expr} {t : T} (h : trT m tc e = some t) : ∀ i ∈ slotsT t, FreeS c i := fun i hi => res_no (slots_res m e t h i hi) o.ok
theorem ps_mkNm (hL : LamH bb Z) (hH : HotH bb Z) (o : OkS bb X Z tc l c W k B) {n : Nat} (x : Str) (v : Expr) (p pos : Pos) : ∀ s, mkNm tc x v (tr n tc) = s → PS X (.Assign [.Name x p] v pos) (TSe B Z c W (ex s l)) := by
  intro s hs
  unfold mkNm at hs
  split at hs
  · rename_i hx
    simp only [Bool.and_eq_true, Bool.or_eq_true, decide_eq_true_eq, Option.isNone_iff_eq_none] at hx
    obtain ⟨⟨hn, hl⟩, hv⟩ := hx
    split at hs
    · rename_i i hi
      have lx : Loc X.env.scope x := by rw [o.ok.sc]; exact hl
      obtain ⟨p1, p2⟩ := ps_nm (p := p) (pos := pos) (n := n) hL hH o hi lx hv
      split at hs
      · subst hs; exact st_bad
      · rename_i hh
        split at hs
        · rename_i hw
          split at hs
          · rename_i hnp
            have hnp : tc.np ≤ i := by simpa using hnp
            subst hs
            cases hf : freshE (frOf l.tb) (tr n tc v) with
            | false =>
              refine .none fun D σ H ⟨O, σd, _, _, q⟩ => ?_
              have q : GoS B Z c W (if freshE (frOf l.tb) (tr n tc v) then (ev (tr n tc v) l σd).bind fun p => if isContainer p.1 then .ok (.nx, p.2.set i (some p.1)) else .bad else .bad) O H D := q
              rw [hf] at q
              exact q
            | true => exact ts_asgr (x := x) (e := v) (pos := pos) o.hB (own_mem o hw) (fun h => by have := o.np i h; omega) (hold_no o (by simpa using hh)) (p2 hf)
          · subst hs; exact st_bad
        · split at hs
          · subst hs; exact st_bad
          · rename_i hr
            subst hs
            exact ts_asgv o.hB (res_no (by simpa using hr) o.ok) p1
    · subst hs; exact st_bad
  · subst hs; exact st_bad
theorem ps_mkSub (o : OkS bb X Z tc l c W k B) {g : Expr → E} (hg : ∀ e, PE X e (TEe Z c W (tP Z) (ev (g e) l))) (ob kx v : Expr) (p pos : Pos) : ∀ s, mkSub tc ob kx v g = s → PS X (.Assign [.Subscript ob kx p] v pos) (TSe B Z c W (ex s l)) := by
  intro s hs
  unfold mkSub at hs
  split at hs
  · rename_i x np
    split at hs
    · rename_i hx
      simp only [Bool.and_eq_true] at hx
      obtain ⟨⟨⟨hn, hv⟩, hsl⟩, hlc⟩ := hx
      rw [notLcT_eq] at hlc
      split at hs
      · rename_i i hi
        split at hs
        · rename_i hw
          subst hs
          exact ts_seti (by have := o.ok.un; omega) (own_mem o hw) hsl hlc (o.ok.var hn hv hi) (hg _) (hg _) (by cases v <;> rfl)
        · subst hs; exact st_bad
      · subst hs; exact st_bad
    · subst hs; exact st_bad
  · subst hs; exact st_bad
theorem plcF_1 (o : OkS bb X Z tc l c W k B) {x : Str} {i : Nat × Bool} (h : plcF tc x = some i) : X.N[i.1]? = some x ∧ X.env.scope.names.lookup x = some .local ∧ ((i.2 = false → FreeS c i.1) ∧ (i.2 = true → i.1 ∈ c.own ∧ i.1 ∉ B.ms ∧ ∀ v, c.hold ≠ some (i.1, v))) := by
  unfold plcF at h
  split at h
  · rename_i j hj
    cases h
    obtain ⟨h1, h2, h3⟩ := plc_1 o hj
    exact ⟨h1, h2, fun _ => h3, fun z => nomatch z⟩
  · split at h
    · rename_i hx
      simp only [Bool.and_eq_true, decide_eq_true_eq] at hx
      split at h
      · rename_i j hs
        split at h
        · rename_i hw
          simp only [Bool.and_eq_true, decide_eq_true_eq, Bool.not_eq_true'] at hw
          cases h
          exact ⟨o.ok.at_ hs, by rw [o.ok.sc]; exact hx.2, fun z => (nomatch z), fun _ => ⟨own_mem o hw.1.1, fun h => by have := o.np j h; omega, hold_no o hw.2⟩⟩
        · cases h
      · cases h
    · cases h
theorem plcN_1 (o : OkS bb X Z tc l c W k B) {e : Expr} {i : Nat × Bool} (h : plcN tc e = some i) : ∃ x p, e = .Name x p ∧ X.N[i.1]? = some x ∧ Loc X.env.scope x ∧ ((i.2 = false → FreeS c i.1) ∧ (i.2 = true → i.1 ∈ c.own ∧ i.1 ∉ B.ms ∧ ∀ v, c.hold ≠ some (i.1, v))) := by
  cases e <;> simp only [plcN] at h <;> first | (cases h; done) | skip
  rename_i x p
  split at h
  · rename_i hx
    simp only [Bool.and_eq_true, Bool.or_eq_true, decide_eq_true_eq] at hx
    have lx : Loc X.env.scope x := by rw [o.ok.sc]; exact hx.2
    split at h
    · rename_i j hs
      split at h
      · cases h
      · rename_i hh
        split at h
        · rename_i hw
          split at h
          · rename_i hnp
            cases h
            have hnp : tc.np ≤ j := by simpa using hnp
            exact ⟨x, p, rfl, o.ok.at_ hs, lx, fun z => (nomatch z), fun _ => ⟨own_mem o hw, fun h => by have := o.np j h; omega, hold_no o (by simpa using hh)⟩⟩
          · cases h
        · split at h
          · cases h
          · rename_i hr
            cases h
            exact ⟨x, p, rfl, o.ok.at_ hs, lx, fun _ => res_no (by simpa using hr) o.ok, fun z => (nomatch z)⟩
    · cases h
  · cases h
theorem ps_mkPar (o : OkS bb X Z tc l c W k B) (hh : tc.hld = none) {gs : List Expr → Es} (hgs : ∀ (is : List (Nat × Bool)) (es : List Expr), parOk (frOf l.tb) is (gs es) = true → PA X es (TAg Z c W (is.map (·.2)) (evs (gs es) l))) (es : List Expr) (ns : List Str) (vs : List Expr) (k1 k2 : Nat) (p1 p2 pos : Pos) (hsw : swappedStores [.Tuple es k1 p1] (.Tuple vs k2 p2) X.env = pure (some ns)) :
    ∀ s, mkPar tc es ns vs gs = s → PS X (.Assign [.Tuple es k1 p1] (.Tuple vs k2 p2) pos) (TSe B Z c W (ex s l)) := by
  intro s hs
  have hc := (o.ok.calm hh).1
  have hN : X.N.Nodup := by rw [o.ok.N]; exact o.ok.nd
  unfold mkPar at hs
  split at hs
  · rename_i x px y py
    split at hs
    · rename_i a b
      split at hs
      · rename_i hns
        subst hns
        split at hs
        · rename_i i j hi hj
          split at hs
          · subst hs; exact st_bad
          · rename_i hij
            subst hs
            obtain ⟨i1, i2, i3⟩ := plcF_1 o hi
            obtain ⟨j1, j2, j3⟩ := plcF_1 o hj
            refine par_stm o.hB (fun q hq => ?_) fun hp => (ps_par hc hN i1 j1 hij i2 j2 (hgs [i, j] [a, b] hp) hsw).weak fun D σ H h => h.imp fun vs H' ⟨hl, q⟩ => ?_
            · rcases List.mem_cons.mp hq with rfl | hq
              · exact i3
              · rw [List.mem_singleton.mp hq]; exact j3
            · match vs, hl with
              | [v, w], _ => exact ⟨v, w, rfl, q H' (Le.refl _)⟩
        · subst hs; exact st_bad
      · subst hs; exact st_bad
    · subst hs; exact st_bad
  · rename_i x px y py z pz
    split at hs
    · rename_i a b d
      split at hs
      · rename_i hns
        subst hns
        split at hs
        · rename_i i j m hi hj hm
          split at hs
          · subst hs; exact st_bad
          · rename_i hij
            simp only [Bool.or_eq_true, decide_eq_true_eq, not_or] at hij
            subst hs
            obtain ⟨i1, i2, i3⟩ := plcF_1 o hi
            obtain ⟨j1, j2, j3⟩ := plcF_1 o hj
            obtain ⟨m1, m2, m3⟩ := plcF_1 o hm
            refine par_stm o.hB (fun q hq => ?_) fun hp => (ps_par3 hc hN i1 j1 m1 hij.1.1 hij.1.2 hij.2 i2 j2 m2 (hgs [i, j, m] [a, b, d] hp) hsw).weak fun D σ H h => h.imp fun vs H' ⟨hl, q⟩ => ?_
            · rcases List.mem_cons.mp hq with rfl | hq
              · exact i3
              · rcases List.mem_cons.mp hq with rfl | hq
                · exact j3
                · rw [List.mem_singleton.mp hq]; exact m3
            · match vs, hl with
              | [u, v, w], _ => exact ⟨u, v, w, rfl, q H' (Le.refl _)⟩
        · subst hs; exact st_bad
      · subst hs; exact st_bad
    · subst hs; exact st_bad
  · subst hs; exact st_bad
/-- the names, one by one -/
def gSets : List Nat → TGs
  | [] => gNil
  | i :: is => gCons (gName i) (gSets is)
theorem gSets_run : ∀ {is : List Nat} {vs : List V} {σ : L2.St} {H : Hp} {Q : L2.St → Hp → Prop}, vs.length = is.length → Q (setV is vs σ) H → gSets is vs σ H Q
  | [], [], _, _, _, _, q => ⟨rfl, q⟩
  | [], _ :: _, _, _, _, h, _ => by cases h
  | _ :: _, [], _, _, _, h, _ => by cases h
  | i :: is, v :: vs, σ, H, Q, h, q => ⟨v, vs, rfl, gSets_run (is := is) (vs := vs) (by simpa using h) q⟩
theorem pgs_sets (o : OkS bb X Z tc l c W k B) : ∀ {es : List Expr} {is : List (Nat × Bool)}, plcNs tc es = some is → PGs X es (gSets (is.map (·.1))) ∧ is.length = es.length ∧ (assignEach es X.env).findIdx? (·.1) = none ∧ ∀ q ∈ is, (q.2 = false → FreeS c q.1) ∧ (q.2 = true → q.1 ∈ c.own ∧ q.1 ∉ B.ms ∧ ∀ v, c.hold ≠ some (q.1, v))
  | [], is, h => by
    cases h
    exact ⟨pgs_nil, rfl, rfl, fun q hq => nomatch hq⟩
  | e :: es, is, h => by
    unfold plcNs at h
    split at h
    · rename_i i is' h1 h2
      cases h
      obtain ⟨x, p, rfl, a1, a2, a3⟩ := plcN_1 o h1
      obtain ⟨b1, b2, b3, b4⟩ := pgs_sets o h2
      have hN : X.N.Nodup := by rw [o.ok.N]; exact o.ok.nd
      refine ⟨pgs_cons (pg_name hN a1 a2 (.inl (o.fn x))) b1, by simp [b2], ?_, fun q hq => ?_⟩
      · have : (assignEach (.Name x p :: es) X.env) = (false, assign (.Name x p) X.env) :: assignEach es X.env := rfl
        rw [this, List.findIdx?_cons, b3]
        rfl
      · rcases List.mem_cons.mp hq with rfl | hq
        · exact a3
        · exact b4 q hq
    · cases h
theorem ps_mkParN (o : OkS bb X Z tc l c W k B) (hh : tc.hld = none) {gs : List Expr → Es} (hgs : ∀ (is : List (Nat × Bool)) (es : List Expr), parOk (frOf l.tb) is (gs es) = true → PA X es (TAg Z c W (is.map (·.2)) (evs (gs es) l))) (es : List Expr) (vs : List Expr) (k1 k2 : Nat) (p1 p2 pos : Pos) (hsw : swappedStores [.Tuple es k1 p1] (.Tuple vs k2 p2) X.env = pure none) :
    ∀ s, mkParN tc es vs gs = s → PS X (.Assign [.Tuple es k1 p1] (.Tuple vs k2 p2) pos) (TSe B Z c W (ex s l)) := by
  intro s hs
  have hc := (o.ok.calm hh).1
  unfold mkParN at hs
  split at hs
  · rename_i is h1
    split at hs
    · rename_i h2
      simp only [Bool.and_eq_true, decide_eq_true_eq] at h2
      subst hs
      obtain ⟨b1, b2, b3, b4⟩ := pgs_sets o h1
      refine par_stm o.hB b4 fun hp => (ps_asg (pe_tup (hgs is vs hp)) (pg_tup (n := es.length) hc b1 (assignE_len es X.env) b3) (swapsS_no rfl) hsw rfl).weak fun D σ H h => h.imp fun us H' ⟨hl, q⟩ => ⟨?_, fun p hp => ?_⟩
      · have : us.length ≤ 60 := by omega
        exact Nat.le_trans this (by decide)
      · refine ⟨p, us, rfl, .inl (.inl upd_same), by omega, gSets_run (by simp; omega) (q _ (le_upd hp))⟩
    · subst hs; exact st_bad
  · subst hs; exact st_bad
theorem ps_mkTup (o : OkS bb X Z tc l c W k B) {g : Expr → E} {gs : List Expr → Es} {m : Nat} (hg : ∀ e, PE X e (TEe Z c W (tP Z) (ev (g e) l))) (hgs : ∀ (is : List (Nat × Bool)) (es : List Expr), parOk (frOf l.tb) is (gs es) = true → PA X es (TAg Z c W (is.map (·.2)) (evs (gs es) l))) (es : List Expr) (v : Expr) (k1 : Nat) (p1 pos : Pos) :
    ∀ s, mkTup tc es (.Tuple es k1 p1) v g gs (trT m tc) = s → PS X (.Assign [.Tuple es k1 p1] v pos) (TSe B Z c W (ex s l)) := by
  intro s hs
  unfold mkTup at hs
  split at hs
  · subst hs; exact st_bad
  · rename_i hx
    simp only [Bool.or_eq_true, Bool.not_eq_true', not_or, Bool.not_eq_true, Bool.not_eq_false] at hx
    have hh : tc.hld = none := by simpa using hx.1
    have hlc : notLc v = true := by rw [← notLcT_eq]; exact hx.2
    have asg_ : ∀ tt, trT m tc (.Tuple es k1 p1) = some tt → swappedStores [.Tuple es k1 p1] v X.env = pure none → PS X (.Assign [.Tuple es k1 p1] v pos) (TSe B Z c W (ex (.asg tt (g v)) l)) := fun tt ht hsw => by
      have hpg := trT_ok (c := c) o.ok.N o.ok.nd o.ok.sc o.ok.K (o.ok.calm hh).1 (o.st (slotsT tt)) (fun i h _ => res_no h o.ok) m _ tt ht (fun i hi => hi)
      refine ts_asg o.hB ?_ (hg v) hpg (swapsS_no hlc) hsw rfl
      exact slots_free o ht
    split at hs
    · rename_i vs hvs
      obtain ⟨k2, p2, rfl⟩ := isTup_some hvs
      split at hs
      · subst hs; exact st_bad
      · rename_i hsm
        have hsw := swap_eq (k1 := k1) (k2 := k2) (p1 := p1) (p2 := p2) (env := X.env) (by rw [o.ok.sc]; exact o.kind) (by rw [o.ok.sc]; exact hsm)
        split at hs
        · rename_i tt ht
          subst hs
          exact asg_ tt ht hsw
        · exact ps_mkParN o hh hgs es vs k1 k2 p1 p2 pos hsw s hs
      · rename_i ns hsm
        have hsw := swap_eq (k1 := k1) (k2 := k2) (p1 := p1) (p2 := p2) (env := X.env) (by rw [o.ok.sc]; exact o.kind) (by rw [o.ok.sc]; exact hsm)
        exact ps_mkPar o hh hgs es ns vs k1 k2 p1 p2 pos hsw s hs
    · rename_i hvs
      split at hs
      · rename_i tt ht
        subst hs
        exact asg_ tt ht (isTup_no hvs)
      · subst hs; exact st_bad
/-! ### return, for, raise, try -/
theorem ps_mkRet (o : OkS bb X Z tc l c W k B) {g : Expr → E} (hg : ∀ e, PE X e (TEe Z c W (tP Z) (ev (g e) l))) (hf : ∀ e, freshE (frOf l.tb) (g e) = true → PE X e (TFe Z c W (ev (g e) l))) (e : Expr) (pos : Pos) : ∀ s, mkRet tc e g = s → PS X (.Return (some e) pos) (TSe B Z c W (ex s l)) := by
  intro s hs
  have gen : ∀ e, PS X (.Return (some e) pos) (TSe B Z c W (ex (.ret (g e)) l)) := fun e => ts_ret o.hB o.fr (hg e) (hf e)
  unfold mkRet at hs
  split at hs
  · rename_i x p
    split at hs
    · rename_i hx
      simp only [Bool.and_eq_true] at hx
      split at hs
      · rename_i i hi
        split at hs
        · rename_i hw
          simp only [Bool.and_eq_true, decide_eq_true_eq] at hw
          subst hs
          exact ts_retr o.hB (own_mem o hw.1) (fun h => by have := o.np i h; omega) (o.ok.var hx.1 hx.2 hi)
        · subst hs; exact gen _
      · subst hs; exact st_bad
    · subst hs; exact gen _
  · subst hs; exact gen _
theorem ps_mkExpr (o : OkS bb X Z tc l c W k B) {g : Expr → E} (hg : ∀ e, PE X e (TEe Z c W (tP Z) (ev (g e) l))) (e : Expr) (pos : Pos) : ∀ s, mkExpr tc e g = s → PS X (.Expr e pos) (TSe B Z c W (ex s l)) := by
  intro s hs
  unfold mkExpr at hs
  split at hs
  · rename_i ha
    subst hs
    unfold isAct at ha
    split at ha
    · simp only [Bool.and_eq_true, decide_eq_true_eq, Bool.not_eq_true'] at ha
      obtain ⟨⟨⟨⟨h1, h2⟩, h3⟩, h4⟩, h5⟩ := ha
      exact o.act (by simpa using h5) _ _ _ _ h1 h2 h3 (List.contains_iff_mem.mp h4) X.pn X.xe W o.ok.tk
    · cases ha
  · split at hs
    · rename_i h
      subst hs
      exact ts_expr (hg e) (by rw [← notLcT_eq]; exact h)
    · subst hs; exact st_bad
theorem ps_mkFor (o : OkS bb X Z tc l c W k B) {gi : Expr → I} {m : Nat} {b : List Stmt} {kb : Ss} (hgi : ∀ {tg : Expr} {tt : T} (e : Expr), trT m tc tg = some tt → fitI false (gi e) tt = true → PI X tg e (TIe Z c W (evi (gi e) l))) (hb : PSs X b (TSe B Z c W (exs kb l))) (t it : Expr) (pos : Pos) :
    ∀ s, mkFor tc t it kb gi (trT m tc) = s → PS X (.For t it b [] pos) (TSe B Z c W (ex s l)) := by
  intro s hs
  unfold mkFor at hs
  split at hs
  · rename_i hx
    simp only [Bool.and_eq_true, Bool.not_eq_true'] at hx
    have hh : tc.hld = none := by simpa using hx.2
    split at hs
    · rename_i tt ht
      split at hs
      · rename_i hfit
        subst hs
        have hpg := trT_ok (c := c) o.ok.N o.ok.nd o.ok.sc o.ok.K (o.ok.calm hh).1 (o.st (slotsT tt)) (fun i h _ => res_no h o.ok) m _ tt ht (fun i hi => hi)
        exact ts_for o.hB (slots_free o ht) (o.hp hh) (o.ok.calm hh).1 (hgi it ht hfit) hpg hb (notSet_fold hx.1)
      · subst hs; exact st_bad
    · subst hs; exact st_bad
  · subst hs; exact st_bad
theorem ps_mkRaise (o : OkS bb X Z tc l c W k B) (e : Expr) (pos : Pos) : ∀ s, mkRaise tc e = s → PS X (.Raise (some e) none pos) (TSe B Z c W (ex s l)) := by
  intro s hs
  unfold mkRaise at hs
  split at hs
  · subst hs; exact st_bad
  · rename_i hh
    have hh : tc.hld = none := by simpa using hh
    split at hs
    · split at hs
      · rename_i hx
        simp only [Bool.and_eq_true] at hx
        split at hs
        · rename_i q hq
          subst hs
          obtain ⟨h1, h2, ⟨bmB, B', newId, initId, h3, h4⟩, h5⟩ := o.ok.exc _ q hq
          exact ts_raise (o.ok.calm hh).1 o.ok.tk (L2N.pmk_own h3 h4 h1 h2 h5 (o.ok.gl hx.2) (okNm_1 hx.1).1)
        · subst hs; exact st_bad
      · subst hs; exact st_bad
    · subst hs; exact st_bad
theorem ps_mkTry (o : OkS bb X Z tc l c W k B) {b : List Stmt} {kb : Ss} {gh : Tc → List Stmt → Ss}
    (hb : ∀ {X' : Cx} {W' : WX}, OkS bb X' Z tc l c W' k B → PSs X' b (TSe B Z c W' (exs kb l)))
    (hgh : ∀ {X' : Cx} {tc' : Tc} {l' : Lv} {c' : Pl} {W' : WX} {k' : Nat}, OkS bb X' Z tc' l' c' W' k' B → ∀ h, PSs X' h (TSe B Z c' W' (exs (gh tc' h) l')))
    (hs : List ExceptHandler) (pos : Pos) : ∀ s, mkTry tc kb hs gh = s → PS X (.Try b hs [] [] pos) (TSe B Z c W (ex s l)) := by
  intro s hst
  unfold mkTry at hst
  split at hst
  · rename_i x np y h0 h hp
    split at hst
    · rename_i hx
      simp only [Bool.and_eq_true, Option.isNone_iff_eq_none, decide_eq_true_eq] at hx
      obtain ⟨⟨⟨hn, hg⟩, hh⟩, hy⟩ := hx
      split at hst
      · rename_i q hq
        split at hst
        · rename_i i hi
          split at hst
          · subst hst; exact st_bad
          · rename_i hr
            have hr : tc.res i = false := by simpa using hr
            subst hst
            obtain ⟨h1, h2, _, h5⟩ := o.ok.exc _ q hq
            exact ts_try_as o.hB (o.h0 hh) o.ok.K (res_no hr o.ok) (o.hs hh) o.hf (by rw [o.ok.N]; exact o.ok.nd) (o.ok.at_ hi) (by show X.env.scope.names.lookup y = _; rw [o.ok.sc]; exact hy) ⟨o.ok.gl hg, (okNm_1 hn).1, .inl h1⟩ o.ok.tk (fun k' => by rw [o.sb]; exact o.ok.gb.exm x q hq k')
              (fun W' pn xe tk hp => hb (o.tr hh tk hp)) (fun k' a oe pn hz hv => hgh (o.suite hh hr hz hv) (h0 :: h)) (by rw [o.n, o.ok.N])
        · subst hst; exact st_bad
      · subst hst; exact st_bad
    · subst hst; exact st_bad
  · subst hst; exact st_bad
/-! ### all statements -/
structure SS (bb : Bool) (Z : Wd) (n : Nat) : Prop where
  s : ∀ {B : Bs} {X : Cx} {tc : Tc} {l : Lv} {c : Pl} {W : WX} {k : Nat}, OkS bb X Z tc l c W k B → ∀ st, PS X st (TSe B Z c W (ex (trS n tc st) l))
  ss : ∀ {B : Bs} {X : Cx} {tc : Tc} {l : Lv} {c : Pl} {W : WX} {k : Nat}, OkS bb X Z tc l c W k B → ∀ sts, PSs X sts (TSe B Z c W (exs (trSs n tc sts) l))
theorem ss_zero : SS bb Z 0 where
  s := fun _ _ => st_bad
  ss := fun _ _ => .none fun D σ H ⟨O, σd, _, _, q⟩ => q
theorem step_s (hL : LamH bb Z) (hH : HotH bb Z) (S : SS bb Z n) (o : OkS bb X Z tc l c W k B) (st : Stmt) : PS X st (TSe B Z c W (ex (trS (n + 1) tc st) l)) := by
  have SE := se_all (Z := Z) hL hH n
  cases st with
  | Expr e p =>
    exact ps_mkExpr o (fun e => (SE.o o.ok e).pe) e p _ rfl
  | Pass p => exact ts_pass
  | Continue p => exact ts_cont
  | Break p => exact ts_break
  | Return v p =>
    cases v with
    | none => exact ts_retN
    | some e => exact ps_mkRet o (fun e => (SE.o o.ok e).pe) (fun e h => SE.f o.ok e h) e p _ rfl
  | If t a b p => exact ts_if (SE.t o.ok t) (S.ss o a) (S.ss o b)
  | For t it b ob p =>
    cases ob with
    | nil => exact ps_mkFor o (fun e h1 h2 => SE.i o.ok e h1 h2) (S.ss o b) t it p _ rfl
    | cons _ _ => exact st_bad
  | While t b ob p =>
    cases ob with
    | nil =>
      show PS X _ (TSe B Z c W (ex (if (true && !tc.hld.isSome) = true then .while (tr n tc t) (trSs n tc b) else .bad) l))
      cases hh : tc.hld.isSome with
      | true => exact st_bad
      | false => exact ts_while (o.hp (by simpa using hh)) (SE.t o.ok t) (S.ss o b)
    | cons _ _ => exact st_bad
  | Raise e kk p =>
    cases kk with
    | some _ => exact st_bad
    | none =>
      cases e with
      | none => exact st_bad
      | some e => exact ps_mkRaise o e p _ rfl
  | Try b hs ob f p =>
    cases ob with
    | cons _ _ => exact st_bad
    | nil =>
      cases f with
      | cons _ _ => exact st_bad
      | nil => exact ps_mkTry o (fun o' => S.ss o' b) (fun o' h => S.ss o' h) hs p _ rfl
  | Assign ts v p =>
    have main : ∀ s, mkAsg tc ts v (tr n tc) (trs n tc) (trT n tc) = s → PS X (.Assign ts v p) (TSe B Z c W (ex s l)) := by
      intro s hs
      unfold mkAsg at hs
      split at hs
      · exact ps_mkNm hL hH o _ v _ p s hs
      · exact ps_mkSub o (fun e => (SE.o o.ok e).pe) _ _ v _ p s hs
      · exact ps_mkTup o (fun e => (SE.o o.ok e).pe) (fun is es h => pg_trs (fun m => se_all hL hH m) n is es o.ok h) _ v _ _ p s hs
      · subst hs; exact st_bad
    exact main _ rfl
  | _ => exact st_bad
theorem ss_all (hL : LamH bb Z) (hH : HotH bb Z) : ∀ n, SS bb Z n
  | 0 => ss_zero
  | n + 1 => ⟨fun o st => step_s hL hH (ss_all hL hH n) o st, fun o sts => by
    cases sts with
    | nil => exact tss_nil
    | cons s ss => exact tss_cons ((ss_all hL hH n).s o s) ((ss_all hL hH n).ss o ss)⟩
end
end BF

/-! Snd27 -/
set_option Elab.async false
set_option linter.all false
set_option maxRecDepth 100000
set_option maxHeartbeats 4000000
namespace BF
open PySem L2

section
variable {Z : Wd} {O : Addr → Prop} {H : Hp} {M : List V}
theorem psOk_at {own bor : List Nat} : ∀ {ps : List Md} {n i : Nat} {m : Md}, psOk own bor ps n = true → ps[i]? = some m → (match m with
    | .s => n + i ∉ own ∧ n + i ∉ bor
    | .b => n + i ∉ own ∧ n + i ∈ bor
    | .m => n + i ∈ own)
  | [], _, _, _, _, h => by simp at h
  | p :: ps, n, 0, m, h, e => by
    simp at e
    subst e
    simp only [psOk, Bool.and_eq_true] at h
    have h := h.1
    cases p <;> simpa using h
  | p :: ps, n, i + 1, m, h, e => by
    simp only [psOk, Bool.and_eq_true] at h
    have := psOk_at (i := i) h.2 (by simpa using e)
    rw [show n + (i + 1) = n + 1 + i by omega]
    exact this
theorem argR_at : ∀ {ps : List Md} {ds : List D} {vs : List V} {i : Nat} {d : D}, ArgR Z H O M ps ds vs → ds[i]? = some d → ∃ m v, ps[i]? = some m ∧ vs[i]? = some v ∧ (match m with
      | .s => Rep Z (hide H O) d v
      | .b => RBx (fun a => V.ref a ∉ M) Z H O d v
      | .m => RM Z H O d v)
  | [], [], [], _, _, _, e => by simp at e
  | [], _ :: _, _, _, _, h, _ => h.elim
  | [], [], _ :: _, _, _, h, _ => h.elim
  | _ :: _, [], _, _, _, h, _ => h.elim
  | _ :: _, _ :: _, [], _, _, h, _ => h.elim
  | m :: ps, x :: ds, v :: vs, 0, d, h, e => by
    simp at e; subst e
    exact ⟨m, v, rfl, rfl, h.1⟩
  | m :: ps, x :: ds, v :: vs, i + 1, d, h, e => by
    obtain ⟨m', v', h1, h2, h3⟩ := argR_at (i := i) h.2 (by simpa using e)
    exact ⟨m', v', by simpa using h1, by simpa using h2, h3⟩
theorem argR_len : ∀ {ps : List Md} {ds : List D} {vs : List V}, ArgR Z H O M ps ds vs → ds.length = ps.length ∧ vs.length = ps.length
  | [], [], [], _ => ⟨rfl, rfl⟩
  | [], _ :: _, _, h => h.elim
  | [], [], _ :: _, h => h.elim
  | _ :: _, [], _, h => h.elim
  | _ :: _, _ :: _, [], h => h.elim
  | _ :: _, _ :: _, _ :: _, h => by simp [argR_len h.2]
/-- the values of the changed parameters, by their places -/
theorem mVals_at {σ : L2.St} : ∀ {ps : List Md} {vs : List V} {n : Nat}, vs.length = ps.length → (∀ i v, vs[i]? = some v → σ[n + i]? = some (some v)) → OutsAt σ (mSlots ps n) (mVals ps vs)
  | [], [], _, _, _ => trivial
  | [], _ :: _, _, h, _ => by simp at h
  | _ :: _, [], _, h, _ => by simp at h
  | m :: ps, v :: vs, n, hl, h => by
    have r := mVals_at (ps := ps) (vs := vs) (n := n + 1) (by simpa using hl) fun i w e => by
      have := h (i + 1) w (by simpa using e)
      rw [show n + 1 + i = n + (i + 1) by omega]; exact this
    cases m with
    | s => exact r
    | b => exact r
    | m => exact ⟨h 0 v rfl, r⟩
theorem mSlots_own {own bor : List Nat} : ∀ {ps : List Md} {n : Nat}, psOk own bor ps n = true → ∀ i ∈ mSlots ps n, i ∈ own ∧ n ≤ i ∧ i < n + ps.length
  | [], _, _, i, h => by simp [mSlots] at h
  | m :: ps, n, h, i, hi => by
    simp only [psOk, Bool.and_eq_true] at h
    have rec_ : i ∈ mSlots ps (n + 1) → i ∈ own ∧ n ≤ i ∧ i < n + (m :: ps).length := fun hi => by
      obtain ⟨h1, h2, h3⟩ := mSlots_own h.2 i hi
      exact ⟨h1, by omega, by simp; omega⟩
    cases m with
    | s => exact rec_ hi
    | b => exact rec_ hi
    | m =>
      rcases List.mem_cons.mp (show i ∈ n :: mSlots ps (n + 1) from hi) with rfl | hi
      · exact ⟨by simpa using h.1, by omega, by simp⟩
      · exact rec_ hi
/-- a value of M stands at a changed parameter -/
theorem mVals_own : ∀ {ps : List Md} {ds : List D} {vs : List V}, ArgR Z H O M ps ds vs → ∀ a, V.ref a ∈ mVals ps vs → O a
  | [], [], [], _, a, h => nomatch h
  | [], _ :: _, _, h, _, _ => h.elim
  | [], [], _ :: _, h, _, _ => h.elim
  | _ :: _, [], _, h, _, _ => h.elim
  | _ :: _, _ :: _, [], h, _, _ => h.elim
  | m :: ps, d :: ds, v :: vs, h, a, ha => by
    cases m with
    | s => exact mVals_own h.2 a ha
    | b => exact mVals_own h.2 a ha
    | m =>
      rcases List.mem_cons.mp (show V.ref a ∈ v :: mVals ps vs from ha) with e | ha
      · obtain ⟨b, eb, ob, _⟩ := h.1
        rw [← e] at eb
        cases eb; exact ob
      · exact mVals_own h.2 a ha
/-- a changed parameter's value is of M -/
theorem mVals_mem : ∀ {ps : List Md} {vs : List V} {i : Nat} {v : V}, vs.length = ps.length → ps[i]? = some .m → vs[i]? = some v → v ∈ mVals ps vs
  | [], _, _, _, _, h, _ => by simp at h
  | _ :: _, [], _, _, h, _, _ => by simp at h
  | m :: ps, w :: vs, 0, v, _, h, e => by
    simp at h e; subst h; subst e
    exact List.mem_cons_self
  | m :: ps, w :: vs, i + 1, v, hl, h, e => by
    have := mVals_mem (ps := ps) (vs := vs) (i := i) (v := v) (by simpa using hl) (by simpa using h) (by simpa using e)
    cases m with
    | s => exact this
    | b => exact this
    | m => exact List.mem_cons_of_mem _ this
theorem nodup_at : ∀ {l : List V} , l.Nodup → ∀ {i j : Nat} {v : V}, l[i]? = some v → l[j]? = some v → i = j
  | [], _, i, j, v, h, _ => by simp at h
  | x :: l, hn, 0, 0, v, _, _ => rfl
  | x :: l, hn, 0, j + 1, v, h, h' => by
    obtain ⟨n1, _⟩ := List.nodup_cons.mp hn
    simp at h h'; subst h
    exact absurd (List.mem_of_getElem? h') n1
  | x :: l, hn, i + 1, 0, v, h, h' => by
    obtain ⟨n1, _⟩ := List.nodup_cons.mp hn
    simp at h h'; subst h'
    exact absurd (List.mem_of_getElem? h) n1
  | x :: l, hn, i + 1, j + 1, v, h, h' => by
    obtain ⟨_, n2⟩ := List.nodup_cons.mp hn
    rw [nodup_at n2 (i := i) (j := j) (v := v) (by simpa using h) (by simpa using h')]
/-- two changed parameters with one value are one -/
theorem mVals_inj : ∀ {ps : List Md} {vs : List V}, vs.length = ps.length → (mVals ps vs).Nodup → ∀ {i j : Nat} {v : V}, ps[i]? = some .m → ps[j]? = some .m → vs[i]? = some v → vs[j]? = some v → i = j
  | [], _, _, _, i, j, v, h, _, _, _ => by simp at h
  | _ :: _, [], h, _, _, _, _, _, _, _, _ => by simp at h
  | m :: ps, w :: vs, hl, hn, 0, 0, v, _, _, _, _ => rfl
  | m :: ps, w :: vs, hl, hn, i + 1, j + 1, v, h1, h2, h3, h4 => by
    have hn' : (mVals ps vs).Nodup := by
      cases m with
      | s => exact hn
      | b => exact hn
      | m => exact (List.nodup_cons.mp hn).2
    rw [mVals_inj (by simpa using hl) hn' (i := i) (j := j) (v := v) (by simpa using h1) (by simpa using h2) (by simpa using h3) (by simpa using h4)]
  | m :: ps, w :: vs, hl, hn, 0, j + 1, v, h1, h2, h3, h4 => by
    simp at h1 h3; subst h1; subst h3
    exact absurd (mVals_mem (by simpa using hl) (by simpa using h2) (by simpa using h4)) (List.nodup_cons.mp hn).1
  | m :: ps, w :: vs, hl, hn, i + 1, 0, v, h1, h2, h3, h4 => by
    simp at h2 h4; subst h2; subst h4
    exact absurd (mVals_mem (by simpa using hl) (by simpa using h1) (by simpa using h3)) (List.nodup_cons.mp hn).1
theorem start_at {N : List Str} {vs : List V} {i : Nat} {v : V} (h : vs[i]? = some v) : (L2.start N vs)[i]? = some (some v) := by
  unfold L2.start
  rw [List.getElem?_append_left (by simpa using (List.getElem?_eq_some_iff.mp h).1)]
  simp [h]
theorem start_of {N : List Str} {vs : List V} {i : Nat} {v : V} (h : (L2.start N vs)[i]? = some (some v)) : vs[i]? = some v := by
  unfold L2.start at h
  by_cases hi : i < (vs.map some).length
  · rw [List.getElem?_append_left hi] at h
    simpa using h
  · rw [List.getElem?_append_right (by omega), List.getElem?_replicate] at h
    split at h <;> simp at h
theorem startD_of {fd : Fd} {ds : List D} {i : Nat} {d : D} (h : (start fd ds)[i]? = some (some d)) : ds[i]? = some d := by
  unfold start at h
  by_cases hi : i < (ds.map some).length
  · rw [List.getElem?_append_left hi] at h
    simpa using h
  · rw [List.getElem?_append_right (by omega), List.getElem?_replicate] at h
    split at h <;> simp at h
/-- the places of a def's body -/
def plOf (fd : Fd) : Pl := ⟨fd.own, fd.bor, none, fun _ => False⟩
theorem start_rel {fd : Fd} {N : List Str} {ds : List D} {vs : List V} (ok : fdOk fd N = true) (hd : DomO Z O H) (ha : ArgR Z H O (mVals fd.ps vs) fd.ps ds vs) (hn : (mVals fd.ps vs).Nodup) : RelS Z (plOf fd) O (start fd ds) (L2.start N vs) H := by
  simp only [fdOk, Bool.and_eq_true, beq_iff_eq, decide_eq_true_eq] at ok
  obtain ⟨⟨o1, o2⟩, o3⟩ := ok
  obtain ⟨l1, l2⟩ := argR_len ha
  have pm : ∀ {i : Nat} {v : V}, i ∈ fd.own → vs[i]? = some v → fd.ps[i]? = some .m := fun {i v} hi hv => by
    have hlt : i < fd.ps.length := by rw [← l2]; exact (List.getElem?_eq_some_iff.mp hv).1
    cases hm : fd.ps[i]? with
    | none => rw [List.getElem?_eq_none_iff] at hm; omega
    | some m =>
      have := psOk_at o3 hm
      cases m with
      | s => simp only [Nat.zero_add] at this; exact absurd hi this.1
      | b => simp only [Nat.zero_add] at this; exact absurd hi this.1
      | m => rfl
  refine ⟨?_, hd.1, hd.2, fun i hi a e => ?_, fun i hi j hj a e e' => ?_, fun i d e => ?_, fun i v h => by cases h⟩
  · unfold start L2.start; simp; omega
  · have hv := start_of e
    exact mVals_own ha a (mVals_mem l2 (pm hi hv) hv)
  · have hv := start_of e
    have hv' := start_of e'
    exact mVals_inj l2 hn (pm hi hv) (pm hj hv') hv hv'
  · have he := startD_of e
    obtain ⟨m, v, h1, h2, h3⟩ := argR_at ha he
    refine ⟨v, start_at h2, fun z => ?_, fun z1 z2 => ?_, fun z1 z2 => ?_⟩
    · have := pm z h2
      rw [h1] at this
      cases this
      obtain ⟨a, ea, _, ct⟩ := h3
      exact ⟨a, ea, ct⟩
    · have hp := psOk_at o3 h1
      cases m with
      | s => simp only [Nat.zero_add] at hp; exact absurd z2 hp.2
      | m => simp only [Nat.zero_add] at hp; exact absurd hp z1
      | b =>
        rcases h3 with q | ⟨a, ea, oa, na, ct⟩
        · exact .inl q
        · refine .inr ⟨a, ea, oa, ⟨fun j hj ej => ?_, fun z => z⟩, ct⟩
          have hv := start_of ej
          exact na (mVals_mem l2 (pm hj hv) hv)
    · have hp := psOk_at o3 h1
      cases m with
      | s => exact h3
      | m => simp only [Nat.zero_add] at hp; exact absurd hp z1
      | b => simp only [Nat.zero_add] at hp; exact absurd hp.2 z2
end
end BF

/-! Snd28 -/
set_option Elab.async false
set_option linter.all false
set_option maxRecDepth 100000
set_option maxHeartbeats 4000000
namespace BF
open PySem L2

section
variable {Z : Wd} {O : Addr → Prop} {H : Hp} {M : List V}
/-- the base of a def's body -/
def bsOf (fd : Fd) (N : List Str) (O : Addr → Prop) (H : Hp) (vs : List V) : Bs := ⟨O, H, mVals fd.ps vs, mSlots fd.ps 0, fd.fresh, N.length, none⟩
theorem bsOk_of {fd : Fd} {N : List Str} {ds : List D} {vs : List V} (ok : fdOk fd N = true) (hd : DomO Z O H) (ha : ArgR Z H O (mVals fd.ps vs) fd.ps ds vs) : BsOk Z (bsOf fd N O H vs) (plOf fd) := by
  simp only [fdOk, Bool.and_eq_true, beq_iff_eq, decide_eq_true_eq] at ok
  exact ⟨hd.1, fun a h => mVals_own ha a h, fun i hi => (mSlots_own ok.2 i hi).1, fun v h => nomatch h⟩
theorem start_J {fd : Fd} {N : List Str} {ds : List D} {vs : List V} (ok : fdOk fd N = true) (ha : ArgR Z H O (mVals fd.ps vs) fd.ps ds vs) : J (bsOf fd N O H vs) (plOf fd) O (L2.start N vs) H := by
  simp only [fdOk, Bool.and_eq_true, beq_iff_eq, decide_eq_true_eq] at ok
  obtain ⟨⟨o1, o2⟩, o3⟩ := ok
  obtain ⟨l1, l2⟩ := argR_len ha
  refine ⟨fun _ h => h, fun _ _ _ _ h => h, fun _ _ e _ _ => e, fun i hi a e => .inl ?_, mVals_at l2 fun i v e => by rw [Nat.zero_add]; exact start_at e, by unfold L2.start; simp [bsOf]; omega, fun v h => nomatch h⟩
  have hv := start_of e
  have hlt : i < fd.ps.length := by rw [← l2]; exact (List.getElem?_eq_some_iff.mp hv).1
  cases hm : fd.ps[i]? with
  | none => rw [List.getElem?_eq_none_iff] at hm; omega
  | some m =>
    have hp := psOk_at o3 hm
    cases m with
    | s => simp only [Nat.zero_add] at hp; exact absurd hi hp.1
    | b => simp only [Nat.zero_add] at hp; exact absurd hi hp.1
    | m => exact mVals_mem l2 hm hv
/-- what a def's body is to do, from its promise -/
theorem fn_start {fd : Fd} {N : List Str} {l : Lv} {F : List D → R (D × List D)} {vs : List V} {Q : VK} {E : XK} (ok : fdOk fd N = true) (hF : ∀ ds, ds.length = fd.ps.length → F ds = finish fd (exs fd.body l (start fd ds))) (h : spF Z fd F vs H Q E) :
    ∃ O, BsOk Z (bsOf fd N O H vs) (plOf fd) ∧ TSe (bsOf fd N O H vs) Z (plOf fd) (fun cls d _ H => E cls d H) (exs fd.body l) { nx := fun _ H' => Q .non H', rt := Q } (L2.start N vs) H := by
  obtain ⟨O, ds, hd, ha, hn, g⟩ := h
  have hB := bsOk_of (N := N) ok hd ha
  refine ⟨O, hB, O, start fd ds, start_rel ok hd ha hn, start_J ok ha, ?_⟩
  rw [hF ds (argR_len ha).1] at g
  unfold finish at g
  cases hx : exs fd.body l (start fd ds) with
  | bad => rw [hx] at g; exact g.elim
  | exc q =>
    rw [hx] at g
    exact fun O' σ' H' r j _ => g H' (fun b o e t n => j.keep b o e t n) ⟨fun a ha => let ⟨o, e, t⟩ := r.dom a (j.sub a ha); ⟨o, e, t⟩, r.tab⟩
  | ok q =>
    rw [hx] at g
    obtain ⟨fl, σd⟩ := q
    intro O' σ' H' r j _
    have dm : DomO Z O H' := ⟨fun a ha => let ⟨o, e, t⟩ := r.dom a (j.sub a ha); ⟨o, e, t⟩, r.tab⟩
    have km : KeepM (mVals fd.ps vs) H H' := fun b o e t n => j.keep b o e t n
    -- the values handed back
    have fin : ∀ {d : D}, (match ((getAll σd (mSlots fd.ps 0)).bind fun ds => R.ok (d, ds)) with
        | .ok q => ∀ v H', KeepM (mVals fd.ps vs) H H' → DomO Z O H' → RetR Z fd.fresh H H' O q.1 v q.2 (mVals fd.ps vs) → Q v H'
        | .exc k => ∀ H', KeepM (mVals fd.ps vs) H H' → DomO Z O H' → E (.ref (Z.cad k)) none H'
        | .bad => False) → ∀ v, RtR (bsOf fd N O H vs) Z σd H' d v → Q v H' := fun {d} g v rv => by
      cases hg : getAll σd (mSlots fd.ps 0) with
      | bad => rw [hg] at g; exact g.elim
      | exc k =>
        exfalso
        have : ∀ (is : List Nat) (k : Nat), getAll σd is ≠ .exc k := by
          intro is
          induction is with
          | nil => intro k h; simp [getAll] at h
          | cons i is ih =>
            intro k h
            unfold getAll at h
            cases h1 : getS σd i with
            | ok x =>
              rw [h1] at h
              cases h2 : getAll σd is with
              | ok y => rw [h2] at h; cases h
              | exc q => exact ih q h2
              | bad => rw [h2] at h; cases h
            | exc q => exact getS_ne q h1
            | bad => rw [h1] at h; cases h
        exact this _ _ hg
      | ok ms =>
        rw [hg] at g
        refine g v H' km dm ⟨⟨rv.1, ?_⟩, fun hf hc => ?_⟩
        · exact outR_of r j.sub j.ms hB.ms (fun a h => hB.hM a h) hg
        · obtain ⟨a, e1, e2, e3, e4⟩ := rv.2 hf hc
          exact ⟨a, e1, e2, e3, e4 ms hg⟩
    cases fl with
    | nx => exact fin (d := .non) g .non ⟨.non, fun _ h => by cases h⟩
    | rt d => exact fin g
    | br => exact g.elim
    | ct => exact g.elim
end
end BF

/-! Snd29 -/
set_option Elab.async false
set_option linter.all false
set_option maxRecDepth 100000
set_option maxHeartbeats 4000000
namespace BF
open PySem L2 PyProof.Rows

section
variable {bb : Bool} {P : Program} {w : World} {Z : Wd} {mg : Str → Option Value} {base : Heap} {fns : List Str} {con : List (Str × D)} {excs : List Str} 
/-- what is known of a def at a level -/
def Lev (P : Program) (w : World) (Z : Wd) (mg : Str → Option Value) (base : Heap) (n : Nat) : Prop :=
  ∀ f fd, Z.tb[f]? = some fd → ∃ (fdt : FuncData) (ps : List Str), FnOk P w Z.K mg base (L2N.CX P w) n (Z.fad f) fdt ps (spF Z fd (Fs Z.tb Z.sub n f)) ∧ L2.Binds Z.K fdt ps [] ∧ PySem.W.keepIn Z.K (.ref (Z.fad f)) = true
theorem Ts_2 {n : Nat} {F : Fns} (h : (Ts Z.tb Z.sub n).2.2 = some F) : ∃ m, m + 2 = n ∧ F = Fs Z.tb Z.sub m := by
  match n with
  | 0 => cases h
  | 1 => cases h
  | m + 2 =>
    have h : some (Ts Z.tb Z.sub m).1 = some F := h
    cases h
    exact ⟨m, rfl, rfl⟩
theorem Lev.fnIn {n : Nat} {X : Cx} (h : Lev P w Z mg base n) (h1 : X.prog = P) (h2 : X.w = w) (h3 : X.K = Z.K) (h4 : X.mg = mg) (h5 : X.base = base) (f : Nat) (fd : Fd) (hf : Z.tb[f]? = some fd) : FnIn X Z n f fd (Fs Z.tb Z.sub n f) := by
  obtain ⟨fdt, ps, q1, q2, q3⟩ := h f fd hf
  exact ⟨fdt, ps, by rw [h1, h2, h3, h4, h5]; exact q1, by rw [h3]; exact q2, by rw [h3]; exact q3⟩
theorem st_bad' {B : Bs} {c : Pl} {W : WX} {X : Cx} {s : Stmt} {f : Sd → R (Fl × Sd)} (h : ∀ σ, f σ = .bad) : PS X s (TSe B Z c W f) := .none fun D σ H ⟨O, σd, _, _, q⟩ => by rw [h] at q; exact q
/-- the context of a def's body -/
theorem okS_of (hT : ∀ f fd, Z.tb[f]? = some fd → DefE Z mg base fns con excs f fd) (G : Gb Z mg fns con excs Z.sub) {n : Nat} (hl : Lev P w Z mg base n) (hl2 : ∀ m, m + 2 ≤ n → Lev P w Z mg base m) {f : Nat} {fd : Fd} {lm : Bool} {name qual : Str} {params : Arguments} {body : List Stmt} {scope : Scope} {dV kV doc pm cdv ct oc : Value} {an od : Option Addr} {osl : Array (Option Value)} {N ps : List Str}
    (d : DefOk Z mg base fns con excs f fd lm name qual params body scope dV kV doc pm cdv ct oc an od osl N ps) (hlb : lm = true → bb = true) {A : Around} {outer : List Env} {s : Shared} {H : Hp} {E : XK} {vs : List V} {O : Addr → Prop} (hr : Room n (A.deeper (envOfC qual scope s.heap.objs.size (Z.fad f) cdv))) (hB : BsOk Z (bsOf fd N O H vs) (plOf fd)) :
    OkS bb (cxOf (L2N.CX P w) P w Z.K mg base N qual scope (Z.fad f) cdv A outer s H E) Z (tcOf fns con excs lm N fd scope) ⟨Z.tb, fd.own, Z.sub, (Ts Z.tb Z.sub n).1, (Ts Z.tb Z.sub n).2.2, runHd Z.tb Z.sub, .bad, none, fd.fresh⟩ (plOf fd) (fun cls d _ H => E cls d H) n (bsOf fd N O H vs) where
  ok := {
    K := rfl
    N := rfl
    nd := d.S.nd
    sc := rfl
    own := rfl
    bor := rfl
    hold := fun _ _ h => nomatch h
    lown := rfl
    tk := L2N.takes_of rfl rfl rfl rfl
    un := by have := hr.un; show (A.deeper _).units + 65 < cLine; omega
    calm := fun _ => ⟨rfl, hr, rfl⟩
    hot := fun _ h => nomatch h
    fns := G.fn_
    con := G.con_
    blt := G.blt
    exc := fun x i h => let ⟨h1, h2, h3, h4, h5⟩ := G.exc x i h; ⟨h1, h2, h3, raises_own h4 h5⟩
    call := fun f fd h => hl.fnIn rfl rfl rfl rfl rfl f fd h
    call2 := fun F h => by
      obtain ⟨m, hm, rfl⟩ := Ts_2 h
      exact ⟨m, by omega, fun f fd h => (hl2 m (by omega)).fnIn rfl rfl rfl rfl rfl f fd h⟩
    lam := fun h => by
      obtain ⟨cc, Pt, h1, h2, h3, h4⟩ := d.lam h
      exact ⟨cc, Pt, h1, h2, h3, h4⟩
    lb := hlb
    gb := G
    defs := hT
    hd := fun F h => ⟨rfl, rfl, rfl⟩ }
  hB := hB
  np := fun i hi => by
    have ok := d.ok
    simp only [fdOk, Bool.and_eq_true, beq_iff_eq, decide_eq_true_eq] at ok
    have := (mSlots_own ok.2 i hi).2.2
    show i < fd.ps.length
    omega
  fr := rfl
  n := rfl
  fn := fun _ => rfl
  hp := fun _ => passes_of rfl
  hs := fun _ => rfl
  hf := rfl
  kind := d.S.kind
  h0 := fun _ => rfl
  sb := rfl
  act := fun _ x p pos pos' _ _ _ _ pn xe W' _ => st_bad' fun _ => rfl
theorem lev_zero (hT : ∀ f fd, Z.tb[f]? = some fd → DefE Z mg base fns con excs f fd) : Lev P w Z mg base 0 := fun f fd hf => by
  obtain ⟨lm, name, qual, params, body, scope, dV, kV, doc, pm, cdv, ct, oc, an, od, osl, N, ps, d⟩ := hT f fd hf
  have no : ∀ vs H Q E, ¬ spF Z fd (Fs Z.tb Z.sub 0 f) vs H Q E := fun vs H Q E ⟨O, ds, _, _, _, g⟩ => g
  exact ⟨_, ps, ⟨fun vs H Q E h => absurd h (no vs H Q E), fun A outer s H args us vs Q E _ _ _ _ h => absurd h (no vs H Q E)⟩, d.bd, d.kp⟩
theorem lev_succ (hL : LamH true Z) (hH : HotH true Z) (G : Gb Z mg fns con excs Z.sub) (hT : ∀ f fd, Z.tb[f]? = some fd → DefE Z mg base fns con excs f fd) {n : Nat} (hl : Lev P w Z mg base n) (hl2 : ∀ m, m + 2 ≤ n → Lev P w Z mg base m) : Lev P w Z mg base (n + 1) := fun f fd hf => by
  obtain ⟨lm, name, qual, params, body, scope, dV, kV, doc, pm, cdv, ct, oc, an, od, osl, N, ps, d⟩ := hT f fd hf
  refine ⟨_, ps, fn_of d.lk d.cd d.S (fun vs H Q E h => ?_) (fun A outer s H vs Q E hr h => ?_), d.bd, d.kp⟩
  · obtain ⟨O, ds, _, ha, _⟩ := h
    rw [(argR_len ha).2, d.len]
  · obtain ⟨O, hB, g⟩ := fn_start (N := N) (l := ⟨Z.tb, fd.own, Z.sub, (Ts Z.tb Z.sub n).1, (Ts Z.tb Z.sub n).2.2, runHd Z.tb Z.sub, .bad, none, fd.fresh⟩) d.ok (fun ds hd => by
      show runFd Z.tb Z.sub _ _ _ _ f ds = _
      unfold runFd
      rw [hf]
      exact if_pos hd) h
    have := (ss_all hL hH 100).ss (okS_of (bb := true) (A := A) (outer := outer) (s := s) (E := E) hT G hl hl2 d (fun _ => rfl) hr hB) body
    refine ⟨_, this, ?_⟩
    have e : trSs 100 (tcOf fns con excs lm N fd scope) body = fd.body := d.tr
    rw [e]
    exact g
theorem lev_all (hL : LamH true Z) (hH : HotH true Z) (G : Gb Z mg fns con excs Z.sub) (hT : ∀ f fd, Z.tb[f]? = some fd → DefE Z mg base fns con excs f fd) (n : Nat) : Lev P w Z mg base n := by
  induction n using Nat.strongRecOn with
  | ind n ih =>
    cases n with
    | zero => exact lev_zero hT
    | succ n => exact lev_succ hL hH G hT (ih n (Nat.lt_succ_self n)) fun m hm => ih m (by omega)
end
end BF

/-! Snd30 -/
set_option Elab.async false
set_option linter.all false
set_option maxRecDepth 100000
set_option maxHeartbeats 4000000
namespace BF
open PySem L2 PySem.Spec PyProof.Rows

/-- a lambda's context; its errors lie as L2N.CX says -/
abbrev lamCxN (X : Cx) (A : Around) (outer : List Env) (s : Shared) (H : Hp) (E : XK) (scope : Scope) (f c' : Addr) : Cx :=
  (LamX.lamCx X A outer s H E scope f c').wish fun e s' => wpAny (model X.prog X.w) (A.deeper (LamX.lamEnv X scope s.heap.objs.size f c')) (leaving (LamX.lamEnv X scope s.heap.objs.size f c') e) (fun _ s2 => L2N.CX X.prog X.w outer H s E e s2) (fun e2 s2 => L2N.CX X.prog X.w outer H s E e2 s2) s'
section
variable {X : Cx} {pins : List (Addr × Obj)} {σ : L2.St} {H : Hp} {s : Shared}
/-- the lambda's object, as it was made -/
structure LamO (X : Cx) (H : Hp) (s : Shared) (ps : Arguments) (b : Expr) (sc : Scope) (f c' : Addr) : Prop where
  obj : ∃ pm ctv, s.heap.get? f = some (PySem.W.kla_obj "<lambda>" (X.env.qual ++ "<lambda>") ps b sc (cloFrom X.env.cells sc.names []) pm c' ctv)
  free : H f = none
  nofr : f ∉ frs X.stack
theorem lam_called {Ng : List Str} {qg : Str} {sg : Scope} {g f c' : Addr} {cdg : Value} {ps : Arguments} {b : Expr} {sc : Scope} {k : Nat} {a : Str} {pn : List (Addr × Obj)} {xe : Value → Shared → Prop} {W : WX} {Eg : XK} {tb : XK → TE} {p1 p2 : Pos}
    (I : Inv X pins σ H s) (L : LamX.LamS X.env.scope sc) (lo : LamO X H s ps b sc f c')
    (hbind : ∀ pm cv ctv, bindArgs (PySem.W.kla_fn "<lambda>" (X.env.qual ++ "<lambda>") ps b sc (cloFrom X.env.cells sc.names []) pm cv ctv) ⟨[], []⟩ = pure [])
    (tk : L2N.Takes ((cxOf (L2N.CX X.prog X.w) X.prog X.w X.K X.mg X.base Ng qg sg g cdg X.A X.stack s H Eg).tr pn xe) W) (hr : Room (k + 1) (X.A.deeper (envOfC qg sg s.heap.objs.size g cdg)))
    (hbody : ∀ (A : Around) (outer : List Env) (s : Shared) (H : Hp) (E : XK), Room k (A.deeper (LamX.lamEnv X sc s.heap.objs.size f c')) → PE (lamCxN X A outer s H E sc f c') b (tb E))
    (hN : Ng[0]? = some a) (hv : Vis sg a) (hd : (a == ("__debug__" : Str)) = false) (hcd : (a == ("__classdict__" : Str)) = false) :
    PE ((cxOf (L2N.CX X.prog X.w) X.prog X.w X.K X.mg X.base Ng qg sg g cdg X.A X.stack s H Eg).tr pn xe) (.Call (.Name a p1) [] [] p2)
      (fun σ2 H2 Q => σ2[0]? = some (some (.ref f)) ∧ H2 c' = some (LamX.CodeO c' (X.env.qual ++ "<lambda>")) ∧ tb (WE W σ2) σ H2 Q) := by
  constructor
  intro pins2 s2 σ2 H2 Q J0 ⟨e1, e2, e3⟩
  have nm := (pe_var (X := (cxOf (L2N.CX X.prog X.w) X.prog X.w X.K X.mg X.base Ng qg sg g cdg X.A X.stack s H Eg).tr pn xe) (pos := p1) (i := 0) hN hv hd hcd).run pins2 s2 σ2 H2 (fun v H1 => v = .ref f ∧ H1 = H2) J0 ⟨.ref f, e1, rfl, rfl⟩
  refine wpAny_Call_Name_kw (thn nm fun u s3 hu => ?_)
  obtain ⟨v, H3, J1, ru, ev, eH⟩ := hu
  subst ev
  rw [eH] at J1
  obtain rfl : u = Value.ref f := ru
  obtain ⟨pm, ctv, ho⟩ := lo.obj
  have ho3 := J1.base.keep f _ ho lo.free lo.nofr (by intro z; cases z)
  refine PySem.W.callWith_F0 ⟨_, _, _, _, ho3⟩ ?_
  have un : Un (frs X.stack) [] H H2 s.heap s3.heap := J1.base
  obtain ⟨⟨oc, vs, t, q1, q2, q3⟩, _, _⟩ := J1.hok c' _ e2
  have run : codeAny (model X.prog X.w) (X.A.deeper (envOfC qg sg s.heap.objs.size g cdg)) (.call (.ref f) ⟨[], []⟩) (CR (L2N.CX X.prog X.w) (envOfC qg sg s.heap.objs.size g cdg :: X.stack) X.prog X.w H2 s3 Q (WE W σ2)) s3 := by
    refine PySem.W.kla_callFunE hr.depth ho3 rfl L.co L.gen rfl ⟨c', oc, vs, t, rfl, q1, q2, q3⟩ ?_
    rw [hbind]
    refine wpAny_pure (wpAny_newFunctionEnv (fun y hy => (L.own y hy).2) (fun y hy => absurd hy (by simp)) (fun h4 hns hsb => ⟨J1.nolimit.fresh _ hsb, ?_⟩) L.kind)
    show codeAny _ _ (.expr b (LamX.lamEnv X sc s3.heap.objs.size f c')) _ _
    have keep4 : ∀ b o, s3.heap.get? b = some o → h4.get? b = some o := fun b o e => hsb.extBut b o (Nat.ne_of_lt (Heap.lt_size e)) (Heap.get?_push_of_some _ e)
    have J2 := (LamX.lam_start2 (A := X.A.deeper (envOfC qg sg s.heap.objs.size g cdg)) (outer := envOfC qg sg s.heap.objs.size g cdg :: X.stack) (E := WE W σ2) (f := f) (c' := c') (tk := s3.toks + ([] : List (Str × Value)).length) I L J1.env0 hr.hd un hns keep4).wish (fun e s' => wpAny (model X.prog X.w) ((X.A.deeper (envOfC qg sg s.heap.objs.size g cdg)).deeper (LamX.lamEnv X sc s3.heap.objs.size f c')) (leaving (LamX.lamEnv X sc s3.heap.objs.size f c') e) (fun _ s2 => L2N.CX X.prog X.w (envOfC qg sg s.heap.objs.size g cdg :: X.stack) H2 s3 (WE W σ2) e s2) (fun e2 s2 => L2N.CX X.prog X.w (envOfC qg sg s.heap.objs.size g cdg :: X.stack) H2 s3 (WE W σ2) e2 s2) s')
    have body := (hbody (X.A.deeper (envOfC qg sg s.heap.objs.size g cdg)) (envOfC qg sg s.heap.objs.size g cdg :: X.stack) s3 H2 (WE W σ2) (hr.deeper _)).run [] _ _ H2 Q J2 e3
    refine PySem.W.kla_codeExpr (wpAny_mono body (fun v s5 hq => ?_) fun e s5 hq => hq)
    obtain ⟨w5, H5, J5, rv, q⟩ := hq
    exact ⟨w5, H5, J5.os, J5.bare, J5.base, J5.hok, rv, q⟩
  have ps2 := L2N.passAt tk σ2
  refine wpAny_call (codeAny_mono run fun r s5 hq => ?_)
  match r, hq with
  | .error e, hq => exact ps2 pins2 H2 s3 e s5 J1 hq
  | .ok (.ret u), hq => exact J1.after hq
  | .ok .next, hq => exact hq.elim
  | .ok .brk, hq => exact hq.elim
  | .ok .cont, hq => exact hq.elim
/-- x(lambda: b) -/
theorem lam_call {T : List (Addr × Str)} {R : L2.St → Hp → VK → Prop} {x a : Str} {g cc Pt : Addr} {k : Nat} {pg : Arguments} {bg : List Stmt} {sg : Scope} {dV kV doc pm cdv ct oc : Value} {nm qn : Str} {an od : Option Addr} {osl : Array (Option Value)} {Ng : List Str}
    {ps : Arguments} {b : Expr} {sc : Scope} {W : WX} {p lpos pos : Pos} (hg : Gl X x) (hm : X.mg x = some (.ref g)) (hk : PySem.W.keepIn X.K (.ref g) = true)
    (lk : X.K.lookup g = some ⟨oc, od, .func (PySem.W.fnOf nm qn pg bg sg dV kV doc pm an cdv ct), osl⟩) (hcg : PySem.W.codeIn X.K cdv qn = true) (hb : L2.Binds X.K (PySem.W.fnOf nm qn pg bg sg dV kV doc pm an cdv ct) [a] []) (Sg : FnScope Ng [a] sg) (tk : L2N.Takes X W)
    (hG : ∀ (f c' : Addr) (s1 : Shared) (σ : L2.St) (H1 : Hp) (Q : VK) (pins : List (Addr × Obj)), Inv X pins σ H1 s1 → LamO X H1 s1 ps b sc f c' → H1 c' = some (LamX.CodeO c' (X.env.qual ++ "<lambda>")) → R σ H1 Q → Room (k + 1) (X.A.deeper (envOfC qn sg s1.heap.objs.size g cdv)) →
      ∃ t, PSs (cxOf (L2N.CX X.prog X.w) X.prog X.w X.K X.mg X.base Ng qn sg g cdv X.A X.stack s1 H1 (WE W σ)) bg t ∧ t { nx := fun _ H' => Q .non H', rt := Q } (L2.start Ng [.ref f]) H1)
    (TB : LamX.TabB X.base X.mg cc Pt) (hcode : X.env.code = .ref cc) (hmT : (Pt, X.env.qual ++ "<lambda>") ∈ T) (hu : ∀ p ∈ T, p.1 = Pt → p.2 = X.env.qual ++ "<lambda>") (hr : Room (k + 2) X.A) (L : LamX.LamS X.env.scope sc) (hdef : defaultsOf ps X.env = ([], []))
    (hdb : (x == ("__debug__" : Str)) = false) :
    PE X (.Call (.Name x p) [.Lambda ps b sc lpos] [] pos) (fun σ H Q => LamX.Tabs T H ∧ ∀ H1, LamX.ExtN H H1 → LamX.Tabs T H1 → R σ H1 Q) := by
  constructor
  intro pins s σ H Q I ⟨hT, h⟩
  refine wpAny_Call_Name_kw (ld_glob I hg hm ?_ hdb)
  refine PySem.W.callWith_K (h₀ := X.base) I.ok.mod.kin hk ?_ (by rfl) (by rfl)
  show wpAny _ _ (spliced ((false, eval (.Lambda ps b sc lpos) X.env) :: backTo pos (starEach [] X.env))) _ _ s
  refine Calls.spliced_cons (LamX.lam_make2 I TB hcode hmT hu hT hdef (L.has I.ok) fun f c' pm' ctv H1 s1 I1 eN T1 hf hfn hfr hco => Calls.spliced_nil ⟨I1.kIn, ?_⟩)
  have lo : LamO X H1 s1 ps b sc f c' := ⟨⟨pm', ctv, hf⟩, hfn, hfr⟩
  have run : codeAny (model X.prog X.w) X.A (.call (.ref g) ⟨[.ref f], []⟩) (CR (L2N.CX X.prog X.w) X.stack X.prog X.w H1 s1 Q (WE W σ)) s1 :=
    LamX.run_ofS (N := Ng) (ps := [a]) (us := [.ref f]) (vs := [.ref f]) lk hcg Sg hr I1.env0 (hb s1 [.ref f] I1.kIn rfl) (.cons rfl .nil) rfl fun hr2 => hG f c' s1 σ H1 Q pins I1 lo hco (h H1 eN T1) hr2
  have ps2 := L2N.passAt tk σ
  refine wpAny_call (codeAny_mono run fun r s5 hq => ?_)
  match r, hq with
  | .error e, hq => exact ps2 pins H1 s1 e s5 I1 hq
  | .ok (.ret u), hq => exact I1.after hq
  | .ok .next, hq => exact hq.elim
  | .ok .brk, hq => exact hq.elim
  | .ok .cont, hq => exact hq.elim
end
end BF

/-! Snd31 -/
set_option Elab.async false
set_option linter.all false
set_option maxRecDepth 100000
set_option maxHeartbeats 4000000
namespace BF
open PySem L2 PySem.Spec PyProof.Rows

section
variable {Z : Wd} {c : Pl} {W : WX} {O : Addr → Prop} {σ : L2.St} {σd : Sd} {H H' : Hp}
/-- all but the tables stays -/
theorem RelS.ext (r : RelS Z c O σd σ H) (l : ∀ b o, H b = some o → NT o → H' b = some o) (t : LamX.Tabs Z.T H') : RelS Z c O σd σ H' := by
  have g : Le (hide H O) (hide H' O) := hide_mono fun a o e t n => ⟨l a o e t, n⟩
  refine ⟨r.len, fun a h => let ⟨o, e, t⟩ := r.dom a h; ⟨o, l a o e t, t⟩, t, r.own, r.inj, fun i d e => ?_, r.hold⟩
  obtain ⟨v, h1, h2, h3, h4⟩ := r.slot i d e
  refine ⟨v, h1, fun z => ?_, fun z1 z2 => ?_, fun z1 z2 => (h4 z1 z2).le g⟩
  · obtain ⟨a, ea, ct⟩ := h2 z
    exact ⟨a, ea, ct.monoN g fun o q t => l a o q t⟩
  · rcases h3 z1 z2 with q | ⟨a, ea, oa, na, ct⟩
    · exact .inl (q.le g)
    · exact .inr ⟨a, ea, oa, na, ct.monoN g fun o q t => l a o q t⟩
/-- the places of a lambda's body -/
def plLam (own bor : List Nat) : Pl := ⟨[], own ++ bor, none, fun _ => False⟩
/-- the maker's slots, as the lambda's body sees them -/
theorem RelS.lam {own bor : List Nat} {O' : Addr → Prop} (r : RelS Z c O σd σ H) (h1 : c.own = own) (h2 : c.bor = bor) (hd : DomO Z O' H') (hO : ∀ b, O b → O' b) (hN : ∀ b o, H b = some o → NT o → ¬ O b → ¬ O' b) (l : ∀ b o, H b = some o → NT o → H' b = some o) : RelS Z (plLam own bor) O' σd σ H' := by
  have g : Le (hide H O) (hide H' O') := hide_mono fun a o e t n => ⟨l a o e t, hN a o e t n⟩
  refine ⟨r.len, hd.1, hd.2, (by intro i hi; cases hi), (by intro i hi; cases hi), fun i d e => ?_, fun i v h => by cases h⟩
  obtain ⟨v, q1, q2, q3, q4⟩ := r.slot i d e
  have np : ∀ a, Apart (plLam own bor) σ a := fun a => ⟨(by intro i hi; cases hi), fun z => z⟩
  refine ⟨v, q1, (by intro hi; cases hi), fun _ z2 => ?_, fun _ z2 => ?_⟩
  · by_cases ho : i ∈ c.own
    · obtain ⟨a, ea, ct⟩ := q2 ho
      exact .inr ⟨a, ea, hO a (r.own i ho a (by rw [q1, ea])), np a, ct.monoN g fun o q t => l a o q t⟩
    · have hb : i ∈ c.bor := by
        have z2 : i ∈ own ++ bor := z2
        rcases List.mem_append.mp z2 with z | z
        · exact absurd (by rw [h1]; exact z) ho
        · rw [h2]; exact z
      rcases q3 ho hb with q | ⟨a, ea, oa, na, ct⟩
      · exact .inl (q.le g)
      · exact .inr ⟨a, ea, hO a oa, np a, ct.monoN g fun o q t => l a o q t⟩
  · have z2 : i ∉ own ++ bor := z2
    have n1 : i ∉ c.own := fun z => z2 (List.mem_append.mpr (.inl (by rw [← h1]; exact z)))
    have n2 : i ∉ c.bor := fun z => z2 (List.mem_append.mpr (.inr (by rw [← h2]; exact z)))
    exact (q4 n1 n2).le g
/-- the lambda's value, without its state -/
def thOf (r : R (D × Sd)) : R D := match r with
  | .ok q => .ok q.1
  | .exc k => .exc k
  | .bad => .bad
theorem lamH_false {Z : Wd} : LamH false Z := by
  intro X tc l c W k o _ x f ps b sc lpos p pos kb _ _ _ hlm
  exact absurd (o.lb hlm) (by decide)
theorem noArgs_eq {ps : Arguments} (h : noArgs ps = true) : ps = ⟨[], [], none, [], [], none, []⟩ := by
  unfold noArgs at h
  split at h
  · rfl
  · cases h
end
end BF

/-! Snd32 -/
set_option Elab.async false
set_option linter.all false
set_option maxRecDepth 100000
set_option maxHeartbeats 4000000
namespace BF
open PySem L2 PySem.Spec PyProof.Rows

section
variable {Z : Wd}
def lvLam (l : Lv) (F2 : Fns) : Lv := { l with own := [], F := F2, F2 := none, Hd := fun _ _ => .bad, th := .bad }
def lvHd (Z : Wd) (fd : Fd) (th : R D) : Lv := ⟨Z.tb, fd.own, Z.sub, fun _ _ => .bad, none, fun _ _ => .bad, th, none, fd.fresh⟩
def bsHd (fd : Fd) (N : List Str) (O : Addr → Prop) (H : Hp) (f : Addr) : Bs := ⟨O, H, [], [], fd.fresh, N.length, some (.ref f)⟩
theorem ok_lam {X : Cx} {tc : Tc} {l : Lv} {c : Pl} {W : WX} {k k2 : Nat} {F2 : Fns} (o : Ok true X Z tc l c W k) (hh : tc.hld = none) (hF : ∀ f fd, l.tb[f]? = some fd → FnIn X Z k2 f fd (F2 f)) {sc : Scope} {A : Around} {outer : List Env} {s : Shared} {H : Hp} {E : XK} {f c' : Addr} (hr : Room k2 (A.deeper (LamX.lamEnv X sc s.heap.objs.size f c'))) :
    Ok true (lamCxN X A outer s H E sc f c') Z { tc with sc := sc, own := [], bor := tc.own ++ tc.bor, hld := none, hx := false, lm := false } (lvLam l F2) (plLam tc.own tc.bor) (fun cls d _ H => E cls d H) k2 where
  K := o.K
  N := o.N
  nd := o.nd
  sc := rfl
  own := rfl
  bor := rfl
  hold := fun _ _ h => nomatch h
  lown := rfl
  tk := L2N.takes_of rfl rfl rfl rfl
  un := by have := hr.un; show (A.deeper _).units + 65 < cLine; omega
  calm := fun _ => ⟨rfl, hr, (o.calm hh).2.2⟩
  hot := fun _ h => nomatch h
  fns := o.fns
  con := o.con
  blt := o.blt
  exc := fun x i h => let q := o.exc x i h; ⟨q.mg, q.keep, q.base, q.rs⟩
  call := fun f fd h => ⟨(hF f fd h).ex⟩
  call2 := fun _ h => nomatch h
  lam := fun h => nomatch h
  lb := fun h => nomatch h
  gb := o.gb
  defs := o.defs
  hd := fun _ h => nomatch h
theorem runHd_eq {f : Nat} {fd : Fd} {th : R D} (h : Z.tb[f]? = some fd) (h2 : fd.ps = [.b] ∧ fd.hd = true) : runHd Z.tb Z.sub f th = (finish fd (exs fd.body (lvHd Z fd th) (List.replicate fd.ns none))).bind fun q => .ok q.1 := by
  unfold runHd
  rw [h]
  exact if_pos h2
theorem ev_lam {f : Nat} {kb : E} {l : Lv} {F2 : Fns} {σ : Sd} (hF : l.F2 = some F2) : ev (.lam f kb) l σ = match ev kb (lvLam l F2) σ with
      | .ok q => (l.Hd f (.ok q.1)).bind fun d => .ok (d, σ)
      | .exc c => (l.Hd f (.exc c)).bind fun d => .ok (d, σ)
      | .bad => .bad := by
  have e : ev (.lam f kb) l σ = (match l.F2 with
    | none => R.bad
    | some F2 => (match ev kb (lvLam l F2) σ with
      | .ok q => (l.Hd f (.ok q.1)).bind fun d => .ok (d, σ)
      | .exc c => (l.Hd f (.exc c)).bind fun d => .ok (d, σ)
      | .bad => .bad)) := rfl
  rw [e, hF]
theorem ev_lam_bad {f : Nat} {kb : E} {l : Lv} {F2 : Fns} {σ : Sd} (hF : l.F2 = some F2) (h : ∀ r, l.Hd f r = .bad) : ev (.lam f kb) l σ = .bad := by
  rw [ev_lam hF]
  cases ev kb (lvLam l F2) σ with
  | ok q => dsimp only; rw [h]; rfl
  | exc q => dsimp only; rw [h]; rfl
  | bad => rfl
/-- the handler, from the lambda's reading -/
theorem hd_start {c : Pl} {W : WX} {O : Addr → Prop} {σ : L2.St} {σd : Sd} {H1 : Hp} {Q : VK} {f : Nat} {fd : Fd} {N : List Str} {th : R D} {fl : Addr} (hps : fd.ps = [.b]) (ok : fdOk fd N = true) (hr : RelS Z c O σd σ H1)
    (g : Go Z c W (((finish fd (exs fd.body (lvHd Z fd th) (List.replicate fd.ns none))).bind fun q => R.ok q.1).bind fun d => .ok (d, σd)) O σ H1 fun d _ H' => ∀ v, Rep Z (hide H' O) d v → Q v H') :
    BsOk Z (bsHd fd N O H1 fl) (plOf fd) ∧ TSe (bsHd fd N O H1 fl) Z (plOf fd) (fun cls d _ H => WE W σ cls d H) (exs fd.body (lvHd Z fd th)) { nx := fun _ H' => Q .non H', rt := Q } (L2.start N [.ref fl]) H1 := by
  have ok' := ok
  simp only [fdOk, Bool.and_eq_true, beq_iff_eq, decide_eq_true_eq] at ok'
  obtain ⟨⟨o1, o2⟩, o3⟩ := ok'
  have z0 : 0 ∉ fd.own ∧ 0 ∈ fd.bor := by
    have := psOk_at (ps := fd.ps) (n := 0) (i := 0) (m := .b) o3 (by rw [hps]; rfl)
    simpa using this
  have l1 : 1 ≤ N.length := by rw [hps] at o2; simpa using o2
  have at0 : ∀ {i : Nat} {a : Addr}, i ∈ fd.own → (L2.start N [V.ref fl])[i]? = some (some (.ref a)) → False := fun {i a} hi e => by
    have := start_of e
    have : i = 0 := by
      have h := (List.getElem?_eq_some_iff.mp this).1
      simp at h; exact h
    exact z0.1 (this ▸ hi)
  have hB : BsOk Z (bsHd fd N O H1 fl) (plOf fd) := ⟨hr.dom, fun a h => (by cases h), fun i h => (by cases h), fun v h => ⟨z0.2, z0.1⟩⟩
  refine ⟨hB, O, List.replicate fd.ns none, ?_, ?_, ?_⟩
  · refine ⟨by unfold L2.start; simp; omega, hr.dom, hr.tab, fun i hi a e => (at0 hi e).elim, fun i hi j hj a e => (at0 hi e).elim, fun i d e => ?_, fun i v h => (by cases h)⟩
    rw [List.getElem?_replicate] at e
    split at e <;> simp at e
  · refine ⟨fun _ h => h, fun _ _ _ _ h => h, fun _ _ e _ _ => e, fun i hi a e => (at0 hi e).elim, trivial, by unfold L2.start; simp [bsHd]; omega, fun v h => ?_⟩
    have h : some (V.ref fl) = some v := h
    cases h
    exact start_at rfl
  · have hms : mSlots fd.ps 0 = [] := by rw [hps]; rfl
    unfold finish at g
    rw [hms] at g
    -- what the maker is told
    have back : ∀ {O' : Addr → Prop} {σ' : L2.St} {H' : Hp} {σ5 : Sd}, RelS Z (plOf fd) O' σ5 σ' H' → J (bsHd fd N O H1 fl) (plOf fd) O' σ' H' → RelS Z c O σd σ H' ∧ KeepE c σ H1 H' := fun {O' σ' H' σ5} r j =>
      ⟨hr.ext (fun b o e t => j.keep b o e t (by intro z; cases z)) r.tab, fun b o e t _ => j.keep b o e t (by intro z; cases z)⟩
    cases hx : exs fd.body (lvHd Z fd th) (List.replicate fd.ns none) with
    | bad => rw [hx] at g; exact g.elim
    | exc q =>
      rw [hx] at g
      intro O' σ' H' r j _
      obtain ⟨b1, b2⟩ := back r j
      exact g H' (by rw [← b1.len]; exact b1.nones) b2
    | ok q =>
      obtain ⟨fl', σ5⟩ := q
      rw [hx] at g
      intro O' σ' H' r j _
      obtain ⟨b1, b2⟩ := back r j
      cases fl' with
      | nx => exact (Go.ok (q := (D.non, σd)) g b1 b2) .non .non
      | rt d => exact fun v rv => (Go.ok (q := (d, σd)) g b1 b2) v rv.1
      | br => exact g.elim
      | ct => exact g.elim
end
end BF

/-! Snd33 -/
set_option Elab.async false
set_option linter.all false
set_option maxRecDepth 100000
set_option maxHeartbeats 4000000
namespace BF
open PySem L2 PySem.Spec PyProof.Rows

section
variable {Z : Wd}
theorem fn_bad {X : Cx} {fns : List Str} {con : List (Str × D)} {excs : List Str} {f : Nat} {fd : Fd} {k : Nat} (hK : X.K = Z.K) (h : DefE Z X.mg X.base fns con excs f fd) : FnIn X Z k f fd (fun _ => .bad) := by
  obtain ⟨lm, name, qual, params, body, scope, dV, kV, doc, pm, cdv, ct, oc, an, od, osl, N, ps, d⟩ := h
  have no : ∀ vs H Q E, ¬ spF Z fd (fun _ => .bad) vs H Q E := fun vs H Q E ⟨O, ds, _, _, _, g⟩ => g
  exact ⟨_, ps, ⟨fun vs H Q E h => absurd h (no vs H Q E), fun A outer s H args us vs Q E _ _ _ _ h => absurd h (no vs H Q E)⟩, by rw [hK]; exact d.bd, by rw [hK]; exact d.kp⟩
/-- lambdas are sound -/
theorem lamH_true (hH : HotH false Z) : LamH true Z := by
  intro X tc l c W k o hh x f ps b sc lpos p pos kb hn hg hf hlm hna hls hbody
  cases hF2 : l.F2 with
  | none =>
    refine pe_bad fun σ => ?_
    have e : ev (.lam f kb) l σ = (match l.F2 with
        | none => R.bad
        | some F2 => (match ev kb (lvLam l F2) σ with
          | .ok q => (l.Hd f (.ok q.1)).bind fun d => .ok (d, σ)
          | .exc c => (l.Hd f (.exc c)).bind fun d => .ok (d, σ)
          | .bad => .bad)) := rfl
    rw [e, hF2]
  | some F2 =>
    obtain ⟨e1, e2, e3⟩ := o.hd F2 hF2
    obtain ⟨k2, hk2, hF⟩ := o.call2 F2 hF2
    have bad_ : (∀ r, runHd Z.tb Z.sub f r = .bad) → PE X (.Call (.Name x p) [.Lambda ps b sc lpos] [] pos) (TEe Z c W (tP Z) (ev (.lam f kb) l)) := fun h => pe_bad fun σ => ev_lam_bad hF2 (by rw [e1]; exact h)
    cases htb : Z.tb[f]? with
    | none => exact bad_ fun r => by unfold runHd; rw [htb]
    | some fd =>
      by_cases hfd : fd.ps = [.b] ∧ fd.hd = true
      · obtain ⟨lm, name, qual, params, body, scope, dV, kV, doc, pm, cdv, ct, oc, an, od, osl, N, psn, d⟩ := o.defs f fd htb
        have hlm' := d.hd hfd.2
        subst hlm'
        have hl1 : psn.length = 1 := by rw [d.len, hfd.1]; rfl
        match psn, hl1 with
        | [a], _ =>
        obtain ⟨cc, Pt, TB, hcode, hmT, hu⟩ := o.lam hlm
        have hrX := (o.calm hh).2.1
        have L : LamX.LamS X.env.scope sc := by rw [o.sc]; exact LamX.lamS_by hls
        have ena := noArgs_eq hna
        subst ena
        have hN0 : N[0]? = some a := by
          have h1 := d.S.pre
          cases N with
          | nil => simp at h1
          | cons y r =>
            simp at h1
            simp [h1]
        have okD := d.ok
        refine (lam_call (k := k2) (T := Z.T) (W := W) (R := fun σ H1 Q => ∃ O σd, RelS Z c O σd σ H1 ∧ Go Z c W (ev (.lam f kb) l σd) O σ H1 fun d _ H' => ∀ v, Rep Z (hide H' O) d v → Q v H') (o.gl hg) (o.fns x f hf) (by rw [o.K]; exact d.kp) (by rw [o.K]; exact d.lk) (by rw [o.K]; exact d.cd) (by rw [o.K]; exact d.bd) d.S o.tk
          (fun f' c' s1 σ H1 Q pins I1 lo hco ⟨O, σd, hr, g⟩ hr2 => ?_) TB hcode hmT hu (hrX.mono hk2) L rfl (okNm_1 hn).1).weak fun σ H Q ⟨O, σd, hr, g⟩ => ⟨hr.tab, fun H1 eN T1 => ⟨O, σd, hr.ext (fun b o e t => eN b o e t) T1, ?_⟩⟩
        · -- the handler's body
          have g := g
          rw [ev_lam hF2, e1] at g
          have gth : Go Z c W (((finish fd (exs fd.body (lvHd Z fd (thOf (ev kb (lvLam l F2) σd))) (List.replicate fd.ns none))).bind fun q => R.ok q.1).bind fun d => .ok (d, σd)) O σ H1 (fun d _ H' => ∀ v, Rep Z (hide H' O) d v → Q v H') := by
            revert g
            cases hE : ev kb (lvLam l F2) σd with
            | ok q => intro g; rw [← runHd_eq htb hfd]; exact g
            | exc q => intro g; rw [← runHd_eq htb hfd]; exact g
            | bad => intro g; exact g.elim
          obtain ⟨hB, ts⟩ := hd_start (f := f) (fl := f') hfd.1 okD hr gth
          have hc0 : c.hold = none := by
            cases hc : c.hold with
            | none => rfl
            | some q => have := o.hold q.1 q.2 (by rw [hc]); rw [hh] at this; cases this
          have okh : OkS false (cxOf (L2N.CX X.prog X.w) X.prog X.w X.K X.mg X.base N qual scope (Z.fad f) cdv X.A X.stack s1 H1 (WE W σ)) Z (tcOf tc.fns tc.con tc.excs false N fd scope) (lvHd Z fd (thOf (ev kb (lvLam l F2) σd))) (plOf fd) (fun cls d _ H => WE W σ cls d H) (k2 + 1) (bsHd fd N O H1 f') := {
            ok := {
              K := o.K
              N := rfl
              nd := d.S.nd
              sc := rfl
              own := rfl
              bor := rfl
              hold := fun _ _ h => (by cases h)
              lown := rfl
              tk := L2N.takes_of rfl rfl rfl rfl
              un := by have := hr2.un; show (X.A.deeper _).units + 65 < cLine; omega
              calm := fun _ => ⟨rfl, hr2, rfl⟩
              hot := fun _ h => (by cases h)
              fns := o.gb.fn_
              con := o.gb.con_
              blt := o.gb.blt
              exc := fun x i h => (by
                obtain ⟨h1, h2, h3, h4, h5⟩ := o.gb.exc x i h
                exact ⟨h1, (by show PySem.W.keepIn X.K _ = true; rw [o.K]; exact h2), (by obtain ⟨q1, q2, q3, q4, q5, q6⟩ := h3; exact ⟨q1, q2, q3, q4, q5, (by show PySem.W.excIn X.K _ _ _ = true; rw [o.K]; exact q6)⟩), raises_own (by show PySem.W.subIn X.K _ _ = _; rw [o.K]; exact h4) (by show PySem.W.typeIn X.K _ = _; rw [o.K]; exact h5)⟩)
              call := fun f fd h => ⟨(fn_bad (X := X) o.K (o.defs f fd h)).ex⟩
              call2 := fun _ h => (by cases h)
              lam := fun h => (by cases h)
              lb := fun h => (by cases h)
              gb := o.gb
              defs := o.defs
              hd := fun _ h => (by cases h) }
            hB := hB
            np := fun i h => (by cases h)
            fr := rfl
            n := rfl
            fn := fun _ => rfl
            hp := fun _ => passes_of rfl
            hs := fun _ => rfl
            hf := rfl
            kind := d.S.kind
            h0 := fun _ => rfl
            sb := rfl
            act := fun _ y p1 p2 p3 hy hv hs _ pn xe W' tk' => by
              have hNy : N[0]? = some y := slot_at hs
              refine (ps_expr (lam_called (k := k2) (tb := fun E => TEe Z (plLam tc.own tc.bor) (fun cls d _ H => E cls d H) (tP Z) (ev kb (lvLam l F2))) I1 L lo (fun _ _ _ => rfl) tk' hr2 (fun A outer s H E hr3 => hbody (ok_lam o hh hF hr3)) hNy (vis_1 hv) (okNm_1 hy).1 (okNm_1 hy).2) (BF.swaps_no rfl)).weak fun D σ2 H2 ⟨O2, σh, r2, j2, g2⟩ => ?_
              have km : ∀ b o, H1 b = some o → NT o → H2 b = some o := fun b o e t => j2.keep b o e t (by intro z; cases z)
              refine ⟨j2.hd _ rfl, km _ _ hco (by intro ps e; exact LamX.codeO_ne ps e), O2, σd, hr.lam o.own o.bor ⟨r2.dom, r2.tab⟩ j2.sub j2.new km, ?_⟩
              have ext : ∀ {σ' : Sd} {H3 : Hp}, RelS Z (plLam tc.own tc.bor) O2 σ' σ H3 → KeepE (plLam tc.own tc.bor) σ H2 H3 → RelS Z (plOf fd) O2 σh σ2 H3 ∧ J (bsHd fd N O H1 f') (plOf fd) O2 σ2 H3 ∧ Le (hide H2 O2) (hide H3 O2) := fun {σ' H3} r3 k3 => by
                have kk : ∀ b o, H2 b = some o → NT o → H3 b = some o := fun b o e t => k3 b o e t (by intro i hi; cases hi)
                exact ⟨r2.ext kk r3.tab, j2.keepE fun b o e t _ => kk b o e t, hide_mono fun a o e t n => ⟨kk a o e t, n⟩⟩
              revert g2
              cases hE : ev kb (lvLam l F2) σd with
              | bad => intro g2; exact g2.elim
              | exc q =>
                intro g2 H3 r3 k3
                obtain ⟨x1, x2, x3⟩ := ext r3 k3
                exact g2 O2 σ2 H3 (by rw [← x1.len]; exact x1.nones) x2 x3
              | ok q =>
                intro g2 H3 r3 k3 v _
                obtain ⟨x1, x2, x3⟩ := ext r3 k3
                exact g2 O2 σ2 H3 x1 x2 x3 }
          have := (ss_all (bb := false) lamH_false hH 100).ss okh body
          refine ⟨_, this, ?_⟩
          have e : trSs 100 (tcOf tc.fns tc.con tc.excs false N fd scope) body = fd.body := d.tr
          rw [e]
          exact ts
        · -- the maker's reading behind the lambda's making
          have kE : KeepE c σ H H1 := fun b o e t _ => eN b o e t
          revert g
          cases hX : ev (.lam f kb) l σd with
          | bad => exact id
          | exc q => exact fun g H' r' k' => g H' r' (kE.trans k')
          | ok q => exact fun g H' r' k' => g H' r' (kE.trans k')
      · exact bad_ fun r => by
          unfold runHd
          rw [htb]
          exact if_neg hfd
end
end BF

/-! Hot1 -/
set_option Elab.async false
set_option linter.all false
set_option maxRecDepth 100000
set_option maxHeartbeats 4000000
namespace BF
open PySem L2 PySem.Spec PyProof.Rows HotX

section
variable {prog : Program} {w : World} {A : Around} {E : Value → Shared → Prop} {s : Shared}
/-- a step of an iterator is over where it raises StopIteration: hot -/
theorem hot_upd {x1 it : Addr} {ob : Obj} {vi : Array Value} {g : Obj → Obj} {h : Heap} (hot : HotAt A x1 h) (hi : h.get? it = some ob) (hd : ob.data = .fields vi) (hs : vi.size = 2) : HotAt A x1 (h.update it g) := by
  obtain ⟨q1, o, vs, q2, q3, q4⟩ := hot
  have ne : x1 ≠ it := fun z => by
    subst z
    rw [hi] at q2
    cases q2
    rw [hd] at q3
    cases q3
    have := (Array.getElem?_eq_some_iff.mp q4).1
    omega
  exact ⟨q1, o, vs, by rw [Heap.get?_update_other _ _ (Ne.symm ne)]; exact q2, q3, q4⟩
theorem next_list_hot {it l x1 : Addr} {i : Nat} {items : Array Value} {Q : Option Value → Shared → Prop} (hot : HotAt A x1 s.heap) (iti : s.heap.IsListIter it l i) (isl : s.heap.IsList l items) (over : items[i]? = none)
    (fin : ∀ h', Heap.ExtBut it s.heap h' → Q none { s with heap := h' }) : wpAny (model prog w) A (pyNext (.ref it)) Q E s := by
  obtain ⟨ob, q1, q2, q3⟩ := id iti
  obtain ⟨ol, p1, _, nl, p3⟩ := isl
  unfold pyNext
  refine wpAny_bind (wpAny_attempt (wpAny_callSpecial?_slot (name := Str.ofString "__next__") iti.typeIs slot_listiter_next (wpAny_call_entry slot_listiter_next iti.typeIs entry_listiter_next ?_ (args_listiter_next _))))
  show wpAny _ _ (field (.ref it) 0 >>= _) _ _ _
  refine wpAny_bind (wpAny_field q1 q3 (x := .ref l) rfl ?_)
  show wpAny _ _ (if (Value.ref l == Value.none) = true then _ else _) _ _ _
  rw [if_neg (by intro z; cases z)]
  show wpAny _ _ (field (.ref it) 1 >>= _) _ _ _
  refine wpAny_bind (wpAny_field q1 q3 (x := .int i 0) rfl ?_)
  show wpAny _ _ (seqItems? (.ref l) >>= _) _ _ _
  refine wpAny_bind (wpAny_seqItems p1 p3 ?_)
  simp only [Int.toNat_natCast, over]
  refine wpAny_bind (wpAny_rule (wpAny_bind (wpAny_setField q1 q3 (by simp) (show wpAny _ _ (newExc (.type "StopIteration") [] >>= _) _ _ _ from wpAny_bind ?_))))
  have hot2 := hot_upd (g := Obj.mapFields (·.setIfInBounds 0 .none)) hot q1 q3 (by rfl)
  simp only [newExc, newTuple]
  refine wpAny_bind (wpAny_newObj_type (wpAny_bind (m := firstArgMember _ _) (wpAny_of_eq (a := Value.none) (by first | rfl | (simp only [firstArgMember]; rfl)) (wpAny_newObj_type ?_ (by size_fits)))) (by size_fits))
  obtain ⟨k1, o1, vs1, k2, k3, k4⟩ := hot2
  refine raiseNew_hot (x1 := x1) ⟨k1, o1, vs1, Heap.get?_push_of_some _ (Heap.get?_push_of_some _ k2), k3, k4⟩ (Nat.ne_of_lt (Heap.lt_size (Heap.get?_push_of_some _ k2))) (Heap.get?_push_size _ rfl) rfl (by first | (simp; done) | (simp; omega)) ?_
  refine wpAny_bind (wpAny_isInstance (T := "StopIteration") (b := true) ⟨_, Heap.get?_update_self _ (Heap.get?_push_size _ rfl) rfl, rfl⟩ isSubtype_stop (wpAny_pure (fin _ fun b o nb e => ?_)))
  have e2 : (s.heap.update it (Obj.mapFields (·.setIfInBounds 0 .none))).get? b = some o := by rw [Heap.get?_update_other _ _ (Ne.symm nb)]; exact e
  rw [Heap.get?_update_other _ _ (Nat.ne_of_gt (Heap.lt_size (Heap.get?_push_of_some _ e2)))]
  exact Heap.get?_push_of_some _ (Heap.get?_push_of_some _ e2)
theorem next_tup_hot {it l x1 : Addr} {i : Nat} {items : Array Value} {Q : Option Value → Shared → Prop} (hot : HotAt A x1 s.heap) (iti : IsTupIter s.heap it l i) (isl : IsTup s.heap l items) (over : items[i]? = none)
    (fin : ∀ h', Heap.ExtBut it s.heap h' → Q none { s with heap := h' }) : wpAny (model prog w) A (pyNext (.ref it)) Q E s := by
  obtain ⟨ob, q1, q2, q3⟩ := id iti
  obtain ⟨ol, p1, _, nl, p3⟩ := isl
  unfold pyNext
  refine wpAny_bind (wpAny_attempt (wpAny_callSpecial?_slot (name := Str.ofString "__next__") iti.typeIs slot_tupleiter_next (wpAny_call_entry slot_tupleiter_next iti.typeIs entry_tupleiter_next ?_ (args_tupleiter_next _))))
  show wpAny _ _ (field (.ref it) 0 >>= _) _ _ _
  refine wpAny_bind (wpAny_field q1 q3 (x := .ref l) rfl ?_)
  show wpAny _ _ (if (Value.ref l == Value.none) = true then _ else _) _ _ _
  rw [if_neg (by intro z; cases z)]
  show wpAny _ _ (field (.ref it) 1 >>= _) _ _ _
  refine wpAny_bind (wpAny_field q1 q3 (x := .int i 0) rfl ?_)
  show wpAny _ _ (seqItems? (.ref l) >>= _) _ _ _
  refine wpAny_bind (wpAny_seqItems p1 p3 ?_)
  simp only [Int.toNat_natCast, over]
  refine wpAny_bind (wpAny_rule (wpAny_bind (wpAny_setField q1 q3 (by simp) (show wpAny _ _ (newExc (.type "StopIteration") [] >>= _) _ _ _ from wpAny_bind ?_))))
  have hot2 := hot_upd (g := Obj.mapFields (·.setIfInBounds 0 .none)) hot q1 q3 (by rfl)
  simp only [newExc, newTuple]
  refine wpAny_bind (wpAny_newObj_type (wpAny_bind (m := firstArgMember _ _) (wpAny_of_eq (a := Value.none) (by first | rfl | (simp only [firstArgMember]; rfl)) (wpAny_newObj_type ?_ (by size_fits)))) (by size_fits))
  obtain ⟨k1, o1, vs1, k2, k3, k4⟩ := hot2
  refine raiseNew_hot (x1 := x1) ⟨k1, o1, vs1, Heap.get?_push_of_some _ (Heap.get?_push_of_some _ k2), k3, k4⟩ (Nat.ne_of_lt (Heap.lt_size (Heap.get?_push_of_some _ k2))) (Heap.get?_push_size _ rfl) rfl (by first | (simp; done) | (simp; omega)) ?_
  refine wpAny_bind (wpAny_isInstance (T := "StopIteration") (b := true) ⟨_, Heap.get?_update_self _ (Heap.get?_push_size _ rfl) rfl, rfl⟩ isSubtype_stop (wpAny_pure (fin _ fun b o nb e => ?_)))
  have e2 : (s.heap.update it (Obj.mapFields (·.setIfInBounds 0 .none))).get? b = some o := by rw [Heap.get?_update_other _ _ (Ne.symm nb)]; exact e
  rw [Heap.get?_update_other _ _ (Nat.ne_of_gt (Heap.lt_size (Heap.get?_push_of_some _ e2)))]
  exact Heap.get?_push_of_some _ (Heap.get?_push_of_some _ e2)
theorem hot_ext {x1 : Addr} {h h' : Heap} (hot : HotAt A x1 h) (k : ∀ b o, h.get? b = some o → h'.get? b = some o) : HotAt A x1 h' := by
  obtain ⟨q1, o, vs, q2, q3, q4⟩ := hot
  exact ⟨q1, o, vs, k _ _ q2, q3, q4⟩
/-- a tuple's items are unpacked, hot -/
theorem items_hot {t x1 : Addr} {items : Array Value} {Q : List Value → Shared → Prop} (hot : HotAt A x1 s.heap) (ht : IsTup s.heap t items)
    (fin : ∀ h', (∀ b o, s.heap.get? b = some o → h'.get? b = some o) → Q items.toList { s with heap := h' }) : wpAny (model prog w) A (unpackItems (.ref t) items.size none) Q E s := by
  have lt : t ≠ s.heap.objs.size := by
    obtain ⟨o, q, _⟩ := ht
    exact Nat.ne_of_lt (Heap.lt_size q)
  unfold unpackItems notIterableAtAll
  refine wpAny_bind (wpAny_bind (wpAny_specialOf ht.typeIs slot_tuple_iter.lookup (wpAny_pure ?_)))
  simp only [Bool.false_eq_true, if_false]
  refine wpAny_bind (wpAny_holding (iter_tuple ht (wpAny_bind (wpAny_holding (draw_tuple lt items.size 0 _ _ ⟨_, Heap.get?_push_size _ rfl, rfl, rfl⟩ (ht.push _) (by omega) fun h1 it1 sb1 => ?_)))))
  have all_ : List.take items.size (List.drop 0 items.toList) = items.toList := by
    rw [List.drop_zero]; exact List.take_of_length_le (by simp)
  have t1 : IsTup h1 t items := (ht.push _).extBut sb1.extBut lt
  have ol : ∀ b o, s.heap.get? b = some o → h1.get? b = some o := fun b o e => sb1.extBut b o (Nat.ne_of_lt (Heap.lt_size e)) (Heap.get?_push_of_some _ e)
  rw [all_, if_neg (by simp)]
  refine wpAny_bind (wpAny_holding (next_tup_hot (hot_ext hot ol) it1 t1 (by simp) fun h2 e2 => ?_))
  simp only [Option.isSome_none, Bool.false_eq_true, if_false]
  exact wpAny_pure (fin h2 fun b o e => e2 b o (Nat.ne_of_lt (Heap.lt_size e)) (ol b o e))
theorem assign_hot {env : Env} {es : List Expr} {k1 : Nat} {pos : Pos} {t x1 : Addr} {items : Array Value} {Q : Unit → Shared → Prop} (hot : HotAt A x1 s.heap) (ht : IsTup s.heap t items) (hn : (assignEach es env).length = items.size) (hs : (assignEach es env).findIdx? (·.1) = none)
    (h : ∀ h', (∀ b o, s.heap.get? b = some o → h'.get? b = some o) → wpAny (model prog w) A (assignInOrder ((assignEach es env).map (·.2)) items.toList) Q E { s with heap := h' }) : wpAny (model prog w) A (assign (.Tuple es k1 pos) env (.ref t)) Q E s := by
  rw [assign_Tuple]
  refine wpAny_bind (wpAny_standAt ?_)
  unfold unpack
  rw [hn, hs]
  exact wpAny_bind (wpAny_holding (items_hot hot ht h))
end
end BF

/-! Hot2 -/
set_option Elab.async false
set_option linter.all false
set_option maxRecDepth 100000
set_option maxHeartbeats 4000000
namespace BF
open PySem L2 PySem.Spec PyProof.Rows HotX

section
variable {Z : Wd} {c : Pl} {X : Cx} {pins : List (Addr × Obj)} {σ : L2.St} {H : Hp} {s : Shared}
/-- a block of a suite: its handled error stands as it was -/
structure HotB (X : Cx) (s : Shared) (H : Hp) (fp : List Addr) (p : Addr × Obj) : Prop where
  hot : L2H.Hot1 X.A p
  get : s.heap.get? p.1 = some p.2
  free : H p.1 = none
  nofs : p.1 ∉ frs X.stack
  nofp : p.1 ∉ fp
theorem HotB.at {scope : Scope} {ce : Env} {fp : List Addr} {p : Addr × Obj} {s0 : Shared} {H0 : Hp} (h : HotB X s0 H0 fp p) (I : Inv (X.blk s0 H0 scope ce fp) pins σ H s) : HotAt X.A p.1 s.heap := by
  obtain ⟨q1, vs, q2, q3⟩ := h.hot
  exact ⟨q1, p.2, vs, I.base.keep _ _ h.get h.free h.nofs h.nofp, q2, q3⟩
/-- a tuple as a target, within such a block -/
theorem tg_tupH {es : List Expr} {k : Nat} {ts : List T} {pos : Pos} {scope : Scope} {ce : Env} {fp : List Addr} {p : Addr × Obj} {s0 : Shared} {H0 : Hp} (hb : HotB X s0 H0 fp p) (hK : X.K = Z.K) {P : D → Prop} (hP : ∀ d, P d → isTupD d = true)
    (h : ∀ a, PGs (X.blk s0 H0 scope ce fp) es (TGrs Z (lk c a) ts)) (hl : ts.length = es.length) (hn : (assignEach es ce).length = es.length) (hst : (assignEach es ce).findIdx? (·.1) = none) : PG (X.blk s0 H0 scope ce fp) (.Tuple es k pos) (gLc Z c P (.tup ts)) := by
  constructor
  intro pins s σ H v u Q I r ⟨a, O, σd, d, hr, rd, pd, g⟩
  have hd := hP d pd
  cases d with
  | tup xs =>
    unfold TGo at g
    simp only [asg, itemsOf] at g
    split at g <;> first | exact g.elim | skip
    rename_i σd' hg
    split at hg <;> first | (cases hg; done) | skip
    rename_i hl'
    cases rd with
    | tup sq rs =>
      cases r
      obtain ⟨its, rv, ht, hz⟩ := I.tuple (X := X.blk s0 H0 scope ce fp) (by show SqT X.K H _ _; rw [hK]; exact (hide_le H O).sqT sq)
      refine assign_hot (hb.at I) ht (by rw [hn]; have := rv.length; have := rs.length; simp; omega) hst fun h' kp => ?_
      have I1 := I.kept (t' := s.toks) (h' := h') kp
      refine (h a).run pins _ σ H _ _ Q I1 (by simpa using rv) ⟨O, σd, xs, hr, rs, ?_⟩
      unfold TGos
      rw [hg]
      exact fun σ' r' sm => g σ' r' (by simpa [slotsT] using sm)
  | _ => simp [isTupD] at hd
end
end BF

/-! Hot3 -/
set_option Elab.async false
set_option linter.all false
set_option maxRecDepth 100000
set_option maxHeartbeats 4000000
namespace BF
open PySem L2 PySem.Spec PyProof.Rows HotX

section
variable {X : Cx}
/-- the reading of a comprehension over a list, within a suite -/
def tLcH (K : PySem.W.Frag) (tl : TE) (g : TG) (tt : TT) (te : TE) (vs : List Nat) : TE := tLc (iList K tl) g tt te vs
theorem pe_lcH {elt tg iter : Expr} {ifs : List Expr} {scope : Scope} {own : List (Str × Nat)} {pos : Pos} {tl : TE} {g : TG} {tt : TT} {te : TE} (hot : L2H.HotC X) (hN : X.N.Nodup) (hl : PE X iter tl) (ok : BlkOk X.N X.env.scope scope own)
    (hg : ∀ (s : Shared) (H : Hp) (C : Addr) (cl : List (Str × Addr)) (fp : List Addr) (p : Addr × Obj), HotB X s H fp p → PG (X.blk s H scope (compEnvC scope cl C X.env) fp) tg g) (ht : ∀ (s : Shared) (H : Hp) (C : Addr) (cl : List (Str × Addr)) (fp : List Addr), PTs (X.blk s H scope (compEnvC scope cl C X.env) fp) ifs tt)
    (he : ∀ (s : Shared) (H : Hp) (C : Addr) (cl : List (Str × Addr)) (fp : List Addr), PE (X.blk s H scope (compEnvC scope cl C X.env) fp) elt te) (hs : ∀ x, foldedSetIterable iter X.env x = pure x) :
    PE X (.ListComp elt [⟨tg, iter, ifs, 0⟩] scope pos) (tLcH X.K tl g tt te (own.map (·.2))) := by
  constructor
  intro pins s σ H Q I h
  rw [eval_ListComp]
  obtain ⟨p, hp1, hp2⟩ := hot
  have free_ : ∀ y ∈ scope.names, y.2 = .free → ∃ c, X.env.cells.lookup y.1 = some c := fun y hy e => (ok.free y hy e).elim (fun q => I.ok.has _ (.inl q)) fun q => I.ok.has _ (.inr q)
  refine wpAny_comprehension_free (use := none) rfl hs (closure_ok free_) ok.kind (fun y hy e => by rw [ok.uniq y hy, e]) (thn (hl.run pins s σ H _ I h) fun u s1 hu => ?_)
  obtain ⟨v, H1, I1, ru, a, ev, ⟨xs0, hxs⟩, q⟩ := hu
  subst ev
  cases ru
  obtain ⟨its0, rv0, pl0, hz0⟩ := I1.list hxs
  refine wpAny_pyIter_list pl0.isList (wpAny_newObj_type (newEnv_comp ?_) (by show 0 ≤ sizeLine; decide))
  -- the iterator at IT, the new list at D
  generalize hIT : s1.heap.objs.size = IT
  generalize hs2 : ({ s1 with heap := s1.heap.push { cls := .type "list_iterator", data := .fields #[.ref a, .int 0 0] } } : Shared) = s2
  have h2 : s2.heap = s1.heap.push { cls := .type "list_iterator", data := .fields #[.ref a, .int 0 0] } := by rw [← hs2]
  have I2 : Inv X pins σ H1 s2 := by rw [← hs2]; exact I1.kept (t' := s1.toks) fun b o e => Heap.get?_push_of_some _ e
  have it2 : s2.heap.IsListIter IT a 0 := ⟨_, by rw [h2, ← hIT]; exact Heap.get?_push_size _ rfl, rfl, rfl⟩
  have fIT : FpOk X pins H1 IT := I1.fpOk (Nat.le_of_eq hIT) (I1.hok.fresh (Nat.le_of_eq hIT))
  generalize hD : s2.heap.objs.size = D
  have nD : H1 D = none := I2.hok.fresh (Nat.le_of_eq hD)
  have ltIT : IT < D := by rw [← hD, h2, Heap.size_push, ← hIT]; exact Nat.lt_succ_self _
  obtain ⟨Wv, ⟨m0, w0⟩, turn⟩ := q D nD
  generalize hs3 : ({ s2 with heap := s2.heap.push { cls := .type "list", data := .seq ([] : List Value).toArray } } : Shared) = s3
  have h3 : s3.heap = s2.heap.push { cls := .type "list", data := .seq ([] : List Value).toArray } := by rw [← hs3]
  have I3 : Inv X pins σ (upd H1 D (.lst [])) s3 := by
    rw [← hs3]
    refine I2.laid (a := D) (t' := s2.toks) (fun b o e => Heap.get?_push_of_some _ e) (Nat.le_of_eq hD) ⟨Nat.zero_le _, [], 0, .nil, ?_⟩
    rw [← hD]; exact Heap.get?_push_size _ rfl
  have f3 : ∀ b ∈ [IT], FpOk X pins (upd H1 D (.lst [])) b ∧ b < s3.heap.objs.size := fun b hb => by
    have hb := List.mem_singleton.mp hb
    subst hb
    refine ⟨⟨by rw [upd_ne (Nat.ne_of_lt ltIT)]; exact fIT.1, fIT.2⟩, ?_⟩
    rw [h3, Heap.size_push, hD]; omega
  have it3 : s3.heap.IsListIter IT a 0 := it2.at fun o e => by rw [h3]; exact Heap.get?_push_of_some _ e
  have I4 := block_start I3 ok hN f3
  obtain ⟨g1, g2, g3, g4, g5⟩ := I3.pin p (List.mem_append_left _ hp2)
  have hb : HotB X s3 (upd H1 D (.lst [])) [IT] p := ⟨hp1, g1, g2, fun z => (List.mem_cons.mp (I3.stkSub _ z)).elim g3 g4, fun z => (fIT.2.2.2.2.2 p (List.mem_append_left _ hp2)) (List.mem_singleton.mp z)⟩
  have pg := hg s3 (upd H1 D (.lst [])) s3.heap.objs.size (cellsFrom (s3.heap.objs.size + 1) scope.names (cloFrom X.env.cells scope.names [])) [IT] p hb
  have pt := ht s3 (upd H1 D (.lst [])) s3.heap.objs.size (cellsFrom (s3.heap.objs.size + 1) scope.names (cloFrom X.env.cells scope.names [])) [IT]
  have pe := he s3 (upd H1 D (.lst [])) s3.heap.objs.size (cellsFrom (s3.heap.objs.size + 1) scope.names (cloFrom X.env.cells scope.names [])) [IT]
  have hpl := hb
  generalize hce : compEnvC scope (cellsFrom (s3.heap.objs.size + 1) scope.names (cloFrom X.env.cells scope.names [])) s3.heap.objs.size X.env = ce at I4 pg pt pe
  have cL : ce.locals = s3.heap.objs.size := by subst hce; rfl
  generalize hs4 : ({ s3 with heap := pushCells (s3.heap.push { cls := .type "dict", data := .dict #[] }) scope.names } : Shared) = s4 at I4
  have it4 : s4.heap.IsListIter IT a 0 := it3.at fun o e => by rw [← hs4]; exact pushCells_keeps _ _ _ _ (Heap.get?_push_of_some _ e)
  have turned_ : ∀ {σ' : L2.St} {H' : Hp} {s' : Shared} {h' : Heap}, Inv (X.blk s3 (upd H1 D (.lst [])) scope ce [IT]) [] σ' H' s' → H' IT = none → (∀ b o, b ≠ IT → s'.heap.get? b = some o → h'.get? b = some o) → Inv (X.blk s3 (upd H1 D (.lst [])) scope ce [IT]) [] σ' H' { s' with heap := h' } := fun {σ' H' s' h'} I' n k =>
    I'.turned (t' := s'.toks) k n (I'.ok.exf IT (by simp)).1 (.inl (by simp)) (fun x c e => (I'.ok.exf IT (by simp)).2 x c e) fun q hq => absurd (show q ∈ ([] : List (Addr × Obj)) ++ [] from hq) (by simp)
  have fpB : ∀ {σ' : L2.St} {H' : Hp} {s' : Shared}, Inv (X.blk s3 (upd H1 D (.lst [])) scope ce [IT]) [] σ' H' s' → H' IT = none → ∀ b ∈ [IT], FpOk (X.blk s3 (upd H1 D (.lst [])) scope ce [IT]) [] H' b := fun {σ' H' s'} I' n b hb => by
    have hb := List.mem_singleton.mp hb
    subst hb
    exact ⟨n, (I'.ok.exf b (by simp)).1, I'.ok.exfs b (by simp), .inl (by simp), fun x c e => (I'.ok.exf b (by simp)).2 x c e, fun q hq => absurd (show q ∈ ([] : List (Addr × Obj)) ++ [] from hq) (by simp)⟩
  have n0 : (upd H1 D (.lst [])) IT = none := (f3 IT (by simp)).1.1
  have loop : codeAny (model X.prog X.w) X.A (.compLoop (.ListComp elt [⟨tg, iter, ifs, 0⟩] scope pos) 0 (.ref IT) (.ref D) ce) (compPost (model X.prog X.w) X.A X.xe none (EP X pins σ Q) (.ref D) s3.heap.objs.size) s4 := by
    refine compLoop_any (fun n s' => ∃ i H', Inv (X.blk s3 (upd H1 D (.lst [])) scope ce [IT]) [] (wipe σ (own.map (·.2))) H' s' ∧ s'.heap.IsListIter IT a i ∧ H' IT = none ∧ Wv i n H') ?_ m0 ⟨0, _, I4, it4, n0, w0⟩
    rintro n s5 ⟨i, H5, I5, it5, n5, w5⟩
    rcases turn i n H5 w5 with ⟨⟨xs, hq, hx⟩, qq⟩ | ⟨⟨xs, x, hq, hx⟩, Nx, hNx, step⟩
    · obtain ⟨its, rv, pl, hz⟩ := I5.list hq
      refine next_list_hot (hpl.at I5) it5 pl.isList (by have := rv.length; simp; omega) fun h6 k6 => ?_
      have I6 := turned_ I5 n5 k6
      have I7 : Inv X pins σ H5 { s5 with heap := h6 } := I3.call' (ch := [IT]) I6.os I6.base I6.hok I6.bare fun b hb => ⟨(f3 b hb).1.2.2.2.1, (f3 b hb).1.2.1, (f3 b hb).1.2.2.2.2.1, (f3 b hb).1.2.2.2.2.2⟩
      have nC : H5 s3.heap.objs.size = none := by
        have z : H5 ce.locals = none := I6.free
        rw [cL] at z; exact z
      obtain ⟨m, hn, _⟩ := I6.loc
      have hn : h6.Ns ce.locals m := hn
      rw [cL] at hn
      obtain ⟨c0, c1, c2, c3, c4, c5⟩ := I3.fpOk (Nat.le_refl _) nC
      exact ⟨m, hn, fun h8 sb => ⟨.ref D, H5, I7.turned (t' := s5.toks) (fun b o hb e => (sb.2 b hb).trans e) c0 c1 c3 c4 c5, rfl, qq⟩⟩
    · obtain ⟨its, rv, pl, hz⟩ := I5.list hq
      obtain ⟨u, hu, ru⟩ := rv.get hx
      refine wpAny_pyNext_list_item it5 pl.isList (x := u) (by simpa using hu) fun h6 it6 sb => ?_
      obtain ⟨oi, i1, i2, i3⟩ := id it6
      refine go_of (s := { s5 with heap := h6 }) i1 i2 i3 (by decide) ?_
      have I6 := turned_ (h' := h6) I5 n5 fun b o nb e => (sb.2 b nb).trans e
      have I6' := I6.pinned (fpB I6 n5) fun b hb => by
        have hb := List.mem_singleton.mp hb
        subst hb
        exact ⟨oi, i1, fun v z => by rw [i3] at z; cases z⟩
      have fin : ∀ {σ8 : L2.St} {s' : Shared} {H' : Hp}, wipe σ8 (own.map (·.2)) = wipe σ (own.map (·.2)) → Inv (X.blk s3 (upd H1 D (.lst [])) scope ce [IT]) ([] ++ pinsAt [IT] h6) σ8 H' s' → Nx H' → ∃ m, m < n ∧ ∃ i H', Inv (X.blk s3 (upd H1 D (.lst [])) scope ce [IT]) [] (wipe σ (own.map (·.2))) H' s' ∧ s'.heap.IsListIter IT a i ∧ H' IT = none ∧ Wv i m H' := fun {σ8 s' H'} hw8 I' nx => by
        obtain ⟨m', hm, w'⟩ := hNx H' nx
        have z := I'.pin (IT, oi) (List.mem_append_right _ (List.mem_append_right _ (mem_pinsAt (by simp) i1)))
        have hl : (wipe σ (own.map (·.2))).length = σ8.length := by rw [← hw8, wipe_length]
        exact ⟨m', hm, i + 1, H', (I'.unpinned (pins := [])).weak hl (fun j v e => by rw [← hw8] at e; exact (wipe_some e).1), ⟨oi, z.1, i2, i3⟩, z.2.1, w'⟩
      refine thnF (pg.run _ _ _ H5 x u _ I6' ru (step x H5 ⟨rfl, fun ys hy => by rw [I5.list_inj hy hq]; exact hx⟩)) fun _ s8 hs8 => ?_
      obtain ⟨σ8, H8, I8, hw8, q8⟩ := hs8
      refine thnF (pt.run _ s8 σ8 H8 _ I8 q8) fun b s9 hs9 => ?_
      obtain ⟨H9, I9, q9⟩ := hs9
      cases b with
      | false =>
        simp only [Bool.false_eq_true, if_false] at q9 ⊢
        exact fin hw8 I9 q9
      | true =>
        simp only [if_true] at q9 ⊢
        refine thnF (pe.run _ s9 σ8 H9 _ I9 q9) fun z s10 hs10 => ?_
        obtain ⟨yv, H10, I10, r10, acc, hD10, hz10, nx⟩ := hs10
        exact app_ok (X := X.blk s3 (upd H1 D (.lst [])) scope ce [IT]) I10 hD10 hz10 r10 fun s11 I11 => fin hw8 I11 nx
  have self_ : wpAny (model X.prog X.w) X.A (pyIter (.ref IT)) (fun it' s' => codeAny (model X.prog X.w) X.A (.compLoop (.ListComp elt [⟨tg, iter, ifs, 0⟩] scope pos) 0 it' (.ref D) ce) (compPost (model X.prog X.w) X.A X.xe none (EP X pins σ Q) (.ref D) s3.heap.objs.size) s') (notedBy (model X.prog X.w) X.A ce fun x s' => compPost (model X.prog X.w) X.A X.xe none (EP X pins σ Q) (.ref D) s3.heap.objs.size (.error x) s') s4 :=
    (turn_list (P := X.prog) (w := X.w) (K := X.K) (tg := tg) a IT).self X.A 0 s4 _ _ it4 loop
  have done := codeAny_compStart_list loop self_
  rw [← hce] at done
  exact done
end
section
variable {X : Cx} {Z : Wd} {tc : Tc} {c : Pl}
theorem trN_ok (hN : X.N = tc.N) (nd : tc.N.Nodup) (hsc : X.env.scope = tc.sc) {S : List Nat} (st : StOk X S) (hf : ∀ i, tc.res i = false → i ∈ S → FreeS c i) {n : Nat} {e : Expr} {j : Nat} (h : trT n tc e = some (.var j)) (hs : j ∈ S) : PG X e (TGr Z c (.var j)) := by
  cases n with
  | zero => simp [trT] at h
  | succ n =>
    cases e <;> simp only [trT] at h <;> first | (cases h; done) | skip
    · rename_i x p
      split at h
      · rename_i hx
        simp only [Bool.and_eq_true, Bool.or_eq_true, decide_eq_true_eq] at hx
        cases hi : tc.slot x with
        | none => rw [hi] at h; cases h
        | some i =>
          rw [hi] at h
          dsimp only at h
          split at h
          · cases h
          · rename_i hr
            cases h
            have hi' : X.N[j]? = some x := by rw [hN]; exact slot_at hi
            have lx : L2.Loc X.env.scope x := by rw [hsc]; exact hx.2
            exact tg_name (hf j (by simpa using hr) hs) (by rw [hN]; exact nd) hi' lx (st x j hi' hs lx)
      · cases h
    · obtain ⟨ts, e1, e2⟩ := Option.map_eq_some_iff.mp h
      cases e2
theorem trNs_ok (hN : X.N = tc.N) (nd : tc.N.Nodup) (hsc : X.env.scope = tc.sc) {S : List Nat} (st : StOk X S) (hf : ∀ i, tc.res i = false → i ∈ S → FreeS c i) : ∀ (n : Nat) (es : List Expr) (ts : List T), trTs n tc es = some ts → ts.all isVarT = true → (∀ i ∈ slotsTs ts, i ∈ S) → PGs X es (TGrs Z c ts) ∧ ts.length = es.length ∧ (assignEach es X.env).findIdx? (·.1) = none
  | 0, _, _, h, _, _ => by simp [trTs] at h
  | n + 1, [], ts, h, _, _ => by simp [trTs] at h; subst h; exact ⟨tg_nil, rfl, rfl⟩
  | n + 1, e :: es, ts, h, hv, hs => by
    simp only [trTs] at h
    cases h1 : trT n tc e with
    | none => rw [h1] at h; simp at h
    | some t =>
      cases h2 : trTs n tc es with
      | none => rw [h1, h2] at h; simp at h
      | some ts2 =>
        rw [h1, h2] at h
        dsimp only at h
        cases h
        rw [List.all_cons, Bool.and_eq_true] at hv
        cases t with
        | tup _ => simp [isVarT] at hv
        | var j =>
          have g1 := trN_ok (Z := Z) hN nd hsc st hf h1 (hs j (by simp [slotsTs, slotsT]))
          obtain ⟨g2, g3, g4⟩ := trNs_ok hN nd hsc st hf n es ts2 h2 hv.2 (fun i hi => hs i (by simp [slotsTs, hi]))
          have ns : ∀ z p, e ≠ .Starred z p := fun z p ez => by
            subst ez
            cases n <;> simp [trT] at h1
          have e1 : assignEach (e :: es) X.env = (false, assign e X.env) :: assignEach es X.env := by
            cases e <;> first | rfl | exact absurd rfl (ns _ _)
          refine ⟨tg_cons g1 g2 (by rw [e1]; rfl), by simp [g3], ?_⟩
          rw [e1, List.findIdx?_cons]
          simp [g4]
end
theorem tie_list {X : Cx} {Z : Wd} {c : Pl} {W : WX} {k : E} {l : Lv} {σ : L2.St} {H : Hp} {R : It → Hp → Prop} (hK : X.K = Z.K) (h : TIe Z c W (evi (.lst k) l) σ H R) : iList X.K (TEe Z c W (tP Z) (ev k l)) σ H R := by
  obtain ⟨O, σd, hr, hg⟩ := h
  refine ⟨O, σd, hr, (Go.bind (r := ev k l σd) hg).imp fun d σ1 H1 _ r1 k1 g v rv => ?_⟩
  obtain ⟨xs, ex, g⟩ := Go.opt g
  have fin := g.ok r1 KeepE.refl
  cases d <;> simp only [lstsOf, Option.some.injEq] at ex <;> first | (cases ex; done) | (subst ex)
  · cases rv with
    | lst s rs => exact ⟨_, rfl, ⟨_, by rw [hK]; exact (hide_le _ _).sqL (SqL.of s)⟩, fin _ (by rw [hK]; exact wk_list rfl (SqL.of s) rs)⟩
  · cases rv with
    | frz s rs => exact ⟨_, rfl, ⟨_, by rw [hK]; exact (hide_le _ _).sqL s⟩, fin _ (by rw [hK]; exact wk_list rfl s rs)⟩
theorem Ok.blkH {bb : Bool} {X : Cx} {Z : Wd} {tc : Tc} {l : Lv} {c : Pl} {W : WX} {k : Nat} (o : Ok bb X Z tc l c W k) (a : Addr) (s : Shared) (H : Hp) (scope : Scope) (C : Addr) (cl : List (Str × Addr)) (fp : List Addr) : Ok bb (X.blk s H scope (compEnvC scope cl C X.env) fp) Z { tc with sc := relS scope tc.sc, hx := false } (noTh l) (lk c a) W0 k where
  K := o.K
  N := o.N
  nd := o.nd
  sc := by show relS scope X.env.scope = relS scope tc.sc; rw [o.sc]
  own := o.own
  bor := o.bor
  hold := o.hold
  lown := o.lown
  tk := takesN0
  un := o.un
  calm := fun h => o.calm h
  hot := fun i _ h => by cases h
  fns := o.fns
  con := o.con
  blt := o.blt
  exc := fun x i h => let q := o.exc x i h; ⟨q.mg, q.keep, q.base, q.rs⟩
  call := fun f fd h => ⟨(o.call f fd h).ex⟩
  call2 := fun F h => let ⟨k2, h1, h2⟩ := o.call2 F h; ⟨k2, h1, fun f fd q => ⟨(h2 f fd q).ex⟩⟩
  lam := o.lam
  lb := o.lb
  gb := o.gb
  defs := o.defs
  hd := o.hd
/-- comprehensions in a suite are sound -/
theorem hotH {bb : Bool} {Z : Wd} : HotH bb Z := by
  intro X tc l c W k i o hh hx elt tg iter ifs scope own pos ke kv t cc ok hf hts hi hflat hown m ht he htt hs
  obtain ⟨hot, a, k', h1, h2, _⟩ := o.hot i hh hx
  have hld : l.hld.isSome = true := by rw [h2]; rfl
  have hN : X.N.Nodup := by rw [o.N]; exact o.nd
  have stB : ∀ (s : Shared) (H : Hp) (C : Addr) (cl : List (Str × Addr)) (fp : List Addr), StOk (X.blk s H scope (compEnvC scope cl C X.env) fp) (own.map (·.2)) := fun s H C cl fp x j hj hS lx => by
    obtain ⟨q, hq, rfl⟩ := List.mem_map.mp hS
    obtain ⟨kk, k1, k2⟩ := hown q hq
    have e1 := ok.ix q hq
    have e2 : X.N[q.2]? = some x := hj
    rw [e1] at e2
    have e3 : q.1 = x := by simpa using e2
    rw [e3] at k1
    have e4 := ok.uniq _ k1
    rcases k2 with rfl | rfl
    · exact .inr (lookup_relS_keep (by decide) e4)
    · refine .inl ?_
      show (scope.names.lookup x == some .cell) = true
      rw [e4]; rfl
  refine (pe_lcH (tl := TEe Z c W (tP Z) (ev kv l)) (g := gLc Z c (fun d => l.hld.isSome = true → isTupD d = true) t) (tt := ttLc Z c (evc cc (noTh l))) (te := teLc Z c (ev ke (noTh l))) hot hN hi ok (fun s H C cl fp p hb => ?_) (fun s H C cl fp => .ex fun a => htt (o.blkH a s H scope C cl fp)) (fun s H C cl fp => .ex fun a => he (o.blkH a s H scope C cl fp)) hs).weak fun σ H Q q => tie_list o.K (lc_red hf hts q)
  have ob := fun a => o.blkH a s H scope C cl fp
  cases t with
  | var j => exact gLc_pg fun a => trN_ok (ob a).N (ob a).nd (ob a).sc (stB s H C cl fp) (fun i hi _ => res_no hi (ob a)) ht (hts j (by simp [slotsT]))
  | tup ts =>
    obtain ⟨es, kk, p', rfl⟩ := trT_tup ht
    cases m with
    | zero => simp [trT] at ht
    | succ m =>
      simp only [trT] at ht
      obtain ⟨ts2, e1, e2⟩ := Option.map_eq_some_iff.mp ht
      cases e2
      have all_ := fun a => trNs_ok (Z := Z) (ob a).N (ob a).nd (ob a).sc (stB s H C cl fp) (fun i hi _ => res_no hi (ob a)) m es ts e1 hflat (fun i hi => hts i (by simpa [slotsT] using hi))
      have a0 := all_ a
      exact tg_tupH hb o.K (fun d h => h hld) (fun a => (all_ a).1) a0.2.1 (assignE_len es _) a0.2.2
end BF

/-! Fast -/
set_option linter.all false
set_option maxRecDepth 100000
/-! The same interpreter, made for the kernel: one small word for each form. -/
namespace BF
open PySem
abbrev KE := Lv → Sd → R (D × Sd)
abbrev KEs := Lv → Sd → R (List D × Sd)
abbrev KEo := Lv → Sd → R (Option Int × Sd)
abbrev KEc := Lv → Sd → R (Bool × Sd)
def cVar (i : Nat) : KE := fun _ σ => (getS σ i).bind fun d => .ok (d, σ)
def cBad : KE := fun _ _ => .bad
def cCst (d : D) : KE := fun _ σ => .ok (d, σ)
def cTup (a : KEs) : KE := fun l σ => (a l σ).bind fun q => if q.1.length ≤ SZ then .ok (.tup q.1, q.2) else .bad
def cLst (a : KEs) : KE := fun l σ => (a l σ).bind fun q => if q.1.length ≤ SZ then .ok (.lst q.1, q.2) else .bad
def cBin (op : Op2) (a b : E) (ra rb : KE) : KE := fun l σ => (lent a (ra l σ) σ).bind fun p => (lent b (rb l p.2) p.2).bind fun q => (rr a p.1 q.2).bind fun x => (R.ofO (bop op x q.1)).bind fun d => .ok (d, q.2)
def cNeg (ra : KE) : KE := fun l σ => (ra l σ).bind fun p => match p.1 with
    | .int i => .ok (.int (-i), p.2)
    | _ => .bad
def cNot (a : E) (ra : KE) : KE := fun l σ => (lent a (ra l σ) σ).bind fun p => (R.ofO (tru p.1)).bind fun k => .ok (.bl (!k), p.2)
def cAnd (ra rb : KE) : KE := fun l σ => (ra l σ).bind fun p => (R.ofO (tru p.1)).bind fun k => if k = true then rb l p.2 else .ok p
def cOr (ra rb : KE) : KE := fun l σ => (ra l σ).bind fun p => (R.ofO (tru p.1)).bind fun k => if k = true then .ok p else rb l p.2
def cCmp (op : Cm) (a b : E) (ra rb : KE) : KE := fun l σ => (lent a (ra l σ) σ).bind fun p => (lent b (rb l p.2) p.2).bind fun q => (rr a p.1 q.2).bind fun x => (R.ofO (cmpD op x q.1)).bind fun k => .ok (.bl k, q.2)
def cChain (op op' : Cm) (a c : E) (ra rb rc : KE) : KE := fun l σ => (lent a (ra l σ) σ).bind fun p => (rb l p.2).bind fun q => (rr a p.1 q.2).bind fun x => (R.ofO (cmpD op x q.1)).bind fun k =>
    if k = true then (lent c (rc l q.2) q.2).bind fun r => (R.ofO (cmpD op' q.1 r.1)).bind fun k' => .ok (.bl k', r.2) else .ok (.bl false, q.2)
def cIte (c : E) (rc ra rb : KE) : KE := fun l σ => (lent c (rc l σ) σ).bind fun p => (R.ofO (tru p.1)).bind fun k => if k = true then ra l p.2 else rb l p.2
def cCall (f : Nat) (as : Es) (ras : KEs) : KE := fun l σ => match l.tb[f]? with
    | none => .bad
    | some fd => if modesOk l.own (outsOf fd.ps as) fd.ps as && nodupB (outsOf fd.ps as) then
        (ras l σ).bind fun q => (rrs as q.1 q.2).bind fun ds => (l.F f ds).bind fun r => (putOuts (outsOf fd.ps as) r.2 q.2).bind fun σ' => .ok (r.1, σ')
      else .bad
def cCal (i : Nat) (as : Es) (ras : KEs) : KE := fun l σ => (getS σ i).bind fun d => match d with
    | .fn f => (match l.tb[f]? with
      | none => .bad
      | some fd => if modesOk [] (outsOf fd.ps as) fd.ps as && nodupB (outsOf fd.ps as) then
        (ras l σ).bind fun q => (rrs as q.1 q.2).bind fun ds => (l.F f ds).bind fun r => (putOuts (outsOf fd.ps as) r.2 q.2).bind fun σ' => .ok (r.1, σ') else .bad)
    | _ => .bad
def cLam (f : Nat) (rb : KE) : KE := fun l σ => match l.F2 with
    | none => .bad
    | some F2 => match rb { l with own := [], F := F2, F2 := none, Hd := fun _ _ => .bad, th := .bad } σ with
      | .ok q => (l.Hd f (.ok q.1)).bind fun d => .ok (d, σ)
      | .exc c => (l.Hd f (.exc c)).bind fun d => .ok (d, σ)
      | .bad => .bad
def cBi (b : Bi) (as : Es) (ras : KEs) : KE := fun l σ => (ras l σ).bind fun q => (rrs as q.1 q.2).bind fun ds => (R.ofO (biD b ds)).bind fun d => .ok (d, q.2)
def cMt (m : Mt) (as : Es) (ra : KE) (ras : KEs) : KE := fun l σ => (ra l σ).bind fun p => if isStrD p.1 then (ras l p.2).bind fun q => (rrs as q.1 q.2).bind fun ds => (R.ofO (mtD m p.1 ds)).bind fun d => .ok (d, q.2) else .bad
def cMm (m : Mm) (i : Nat) (ras : KEs) : KE := fun l σ => (getS σ i).bind fun a0 => if isLstD a0 then (ras l σ).bind fun q => (getS q.2 i).bind fun a => (R.ofO (mmD m a q.1)).bind fun r => .ok (r.1, q.2.set i (some r.2)) else .bad
def cSub (a : E) (ra rb : KE) : KE := fun l σ => (lent a (ra l σ) σ).bind fun p => (rb l p.2).bind fun q => (rr a p.1 q.2).bind fun x => (R.ofO (subD x q.1)).bind fun d => .ok (d, q.2)
def cSl (a : E) (ra : KE) (rlo rhi : KEo) : KE := fun l σ => (lent a (ra l σ) σ).bind fun p => (rlo l p.2).bind fun q => (rhi l q.2).bind fun r => (rr a p.1 r.2).bind fun x => match x with
    | .tup xs => .ok (.tup (cut xs q.1 r.1), r.2)
    | .lst xs => .ok (.lst (cut xs q.1 r.1), r.2)
    | _ => .bad
def cRev (a : E) (ra : KE) : KE := fun l σ => (lent a (ra l σ) σ).bind fun p => match p.1 with
    | .tup xs => .ok (.tup xs.reverse, p.2)
    | .lst xs => .ok (.lst xs.reverse, p.2)
    | _ => .bad
def cLc (own : List Nat) (t : T) (relt : KE) (rit : KEs) (rc : KEc) : KE := fun l σ => (rit l σ).bind fun p => if l.hld.isSome && !p.1.all isTupD then .bad else (nox (lcGo (fun x σ => (asg t x (wipeD σ own)).bind fun σ1 => (rc { l with th := .bad } σ1).bind fun q => if q.1 = true then (relt { l with th := .bad } q.2).bind fun r => .ok (some r.1, r.2) else .ok (none, q.2)) p.1 p.2 [])).bind fun q => .ok (.lst q.1, back own σ q.2)
def cDic (ks vs : Es) : KE := fun l σ => match ks, vs with
    | .nil, .nil => .ok (.dic [], σ)
    | _, _ => .bad
def cIsx (c : Nat) : KE := fun l σ => match l.hld with
    | some k => .ok (.bl (l.sub k c), σ)
    | none => .bad
def cNil : KEs := fun _ σ => .ok ([], σ)
def cCons (ra : KE) (ras : KEs) : KEs := fun l σ => (ra l σ).bind fun p => (ras l p.2).bind fun q => .ok (p.1 :: q.1, q.2)
def cConsB (e : E) (ra : KE) (ras : KEs) : KEs := fun l σ => (lent e (ra l σ) σ).bind fun p => (ras l p.2).bind fun q => .ok (p.1 :: q.1, q.2)
def cNone : KEo := fun _ σ => .ok (none, σ)
def cSome (ra : KE) : KEo := fun l σ => (ra l σ).bind fun p => match p.1 with
    | .int i => .ok (some i, p.2)
    | _ => .bad
def cTrue : KEc := fun _ σ => .ok (true, σ)
def cTest (e : E) (ra : KE) : KEc := fun l σ => (lent e (ra l σ) σ).bind fun p => (R.ofO (tru p.1)).bind fun k => .ok (k, p.2)
def cIval (ra : KE) : KEs := fun l σ => (ra l σ).bind fun p => (R.ofO (itemsOf p.1)).bind fun xs => .ok (xs, p.2)
def cIlst (ra : KE) : KEs := fun l σ => (ra l σ).bind fun p => (R.ofO (lstsOf p.1)).bind fun xs => .ok (xs, p.2)
def cIr1 (ra : KE) : KEs := fun l σ => (ra l σ).bind fun p => match p.1 with
    | .int j => if rngOk j then .ok (rangeL 0 j, p.2) else .bad
    | _ => .bad
def cIr2 (ra rb : KE) : KEs := fun l σ => (ra l σ).bind fun p => (rb l p.2).bind fun q => match p.1, q.1 with
    | .int i, .int j => if rngOk i && rngOk j then .ok (rangeL i j, q.2) else .bad
    | _, _ => .bad
def cIen (ra : KE) : KEs := fun l σ => (ra l σ).bind fun p => (R.ofO (itemsOf p.1)).bind fun xs => .ok (enumL xs, p.2)
def cIzip (ra rb : KE) : KEs := fun l σ => (ra l σ).bind fun p => (rb l p.2).bind fun q => (R.ofO (zipsOf p.1 q.1)).bind fun xs => .ok (zipL xs.1 xs.2, q.2)
def cIbad : KEs := fun _ _ => .bad
/-- lists of arguments: plain, lent -/
structure KA where
  a : KEs
  b : KEs
structure KO where
  o : KEo
  c : KEc
noncomputable def fv (e : E) : KE := E.rec (motive_1 := fun _ => KE) (motive_2 := fun _ => KA) (motive_3 := fun _ => KO) (motive_4 := fun _ => KEs)
  cVar (fun _ => cBad) cCst (fun f => cCst (.fn f))
  (fun _ a => cTup a.a) (fun _ a => cLst a.a)
  cBin (fun _ => cNeg) cNot (fun _ _ => cAnd) (fun _ _ => cOr)
  cCmp (fun op op' a _ c ra rb rc => cChain op op' a c ra rb rc) (fun c _ _ => cIte c)
  (fun f as ra => cCall f as ra.b) (fun f as ra => cCal f as ra.b)
  (fun _ => cBad) (fun f _ => cLam f)
  (fun b as ra => cBi b as ra.b) (fun m _ as ra ras => cMt m as ra ras.b) (fun m i _ ras => cMm m i ras.a)
  (fun a _ => cSub a) (fun a _ _ ra lo hi => cSl a ra lo.o hi.o) (fun a => cRev a)
  (fun own _ t _ _ relt rit rc => cLc own t relt rit rc.c)
  (fun ks vs _ _ => cDic ks vs) (fun _ => cIsx) cBad
  ⟨cNil, cNil⟩ (fun e _ ra ras => ⟨cCons ra ras.a, cConsB e ra ras.b⟩)
  ⟨cNone, cTrue⟩ (fun e ra => ⟨cSome ra, cTest e ra⟩)
  (fun _ => cIval) (fun _ => cIlst) (fun _ => cIr1) (fun _ _ => cIr2) (fun _ => cIen) (fun _ _ => cIzip) cIbad e
noncomputable def fA (e : Es) : KA := Es.rec (motive_1 := fun _ => KE) (motive_2 := fun _ => KA) (motive_3 := fun _ => KO) (motive_4 := fun _ => KEs)
  cVar (fun _ => cBad) cCst (fun f => cCst (.fn f))
  (fun _ a => cTup a.a) (fun _ a => cLst a.a)
  cBin (fun _ => cNeg) cNot (fun _ _ => cAnd) (fun _ _ => cOr)
  cCmp (fun op op' a _ c ra rb rc => cChain op op' a c ra rb rc) (fun c _ _ => cIte c)
  (fun f as ra => cCall f as ra.b) (fun f as ra => cCal f as ra.b)
  (fun _ => cBad) (fun f _ => cLam f)
  (fun b as ra => cBi b as ra.b) (fun m _ as ra ras => cMt m as ra ras.b) (fun m i _ ras => cMm m i ras.a)
  (fun a _ => cSub a) (fun a _ _ ra lo hi => cSl a ra lo.o hi.o) (fun a => cRev a)
  (fun own _ t _ _ relt rit rc => cLc own t relt rit rc.c)
  (fun ks vs _ _ => cDic ks vs) (fun _ => cIsx) cBad
  ⟨cNil, cNil⟩ (fun e _ ra ras => ⟨cCons ra ras.a, cConsB e ra ras.b⟩)
  ⟨cNone, cTrue⟩ (fun e ra => ⟨cSome ra, cTest e ra⟩)
  (fun _ => cIval) (fun _ => cIlst) (fun _ => cIr1) (fun _ _ => cIr2) (fun _ => cIen) (fun _ _ => cIzip) cIbad e
noncomputable def fO (e : Eo) : KO := Eo.rec (motive_1 := fun _ => KE) (motive_2 := fun _ => KA) (motive_3 := fun _ => KO) (motive_4 := fun _ => KEs)
  cVar (fun _ => cBad) cCst (fun f => cCst (.fn f))
  (fun _ a => cTup a.a) (fun _ a => cLst a.a)
  cBin (fun _ => cNeg) cNot (fun _ _ => cAnd) (fun _ _ => cOr)
  cCmp (fun op op' a _ c ra rb rc => cChain op op' a c ra rb rc) (fun c _ _ => cIte c)
  (fun f as ra => cCall f as ra.b) (fun f as ra => cCal f as ra.b)
  (fun _ => cBad) (fun f _ => cLam f)
  (fun b as ra => cBi b as ra.b) (fun m _ as ra ras => cMt m as ra ras.b) (fun m i _ ras => cMm m i ras.a)
  (fun a _ => cSub a) (fun a _ _ ra lo hi => cSl a ra lo.o hi.o) (fun a => cRev a)
  (fun own _ t _ _ relt rit rc => cLc own t relt rit rc.c)
  (fun ks vs _ _ => cDic ks vs) (fun _ => cIsx) cBad
  ⟨cNil, cNil⟩ (fun e _ ra ras => ⟨cCons ra ras.a, cConsB e ra ras.b⟩)
  ⟨cNone, cTrue⟩ (fun e ra => ⟨cSome ra, cTest e ra⟩)
  (fun _ => cIval) (fun _ => cIlst) (fun _ => cIr1) (fun _ _ => cIr2) (fun _ => cIen) (fun _ _ => cIzip) cIbad e
noncomputable def fI (e : I) : KEs := I.rec (motive_1 := fun _ => KE) (motive_2 := fun _ => KA) (motive_3 := fun _ => KO) (motive_4 := fun _ => KEs)
  cVar (fun _ => cBad) cCst (fun f => cCst (.fn f))
  (fun _ a => cTup a.a) (fun _ a => cLst a.a)
  cBin (fun _ => cNeg) cNot (fun _ _ => cAnd) (fun _ _ => cOr)
  cCmp (fun op op' a _ c ra rb rc => cChain op op' a c ra rb rc) (fun c _ _ => cIte c)
  (fun f as ra => cCall f as ra.b) (fun f as ra => cCal f as ra.b)
  (fun _ => cBad) (fun f _ => cLam f)
  (fun b as ra => cBi b as ra.b) (fun m _ as ra ras => cMt m as ra ras.b) (fun m i _ ras => cMm m i ras.a)
  (fun a _ => cSub a) (fun a _ _ ra lo hi => cSl a ra lo.o hi.o) (fun a => cRev a)
  (fun own _ t _ _ relt rit rc => cLc own t relt rit rc.c)
  (fun ks vs _ _ => cDic ks vs) (fun _ => cIsx) cBad
  ⟨cNil, cNil⟩ (fun e _ ra ras => ⟨cCons ra ras.a, cConsB e ra ras.b⟩)
  ⟨cNone, cTrue⟩ (fun e ra => ⟨cSome ra, cTest e ra⟩)
  (fun _ => cIval) (fun _ => cIlst) (fun _ => cIr1) (fun _ _ => cIr2) (fun _ => cIen) (fun _ _ => cIzip) cIbad e

mutual
theorem fv_eq : ∀ e, fv e = ev e
  | .var _ => rfl
  | .rv _ => rfl
  | .cst _ => rfl
  | .fn _ => rfl
  | .tup es => by show cTup (fA es).a = _; rw [(fA_eq es).1]; rfl
  | .lst es => by show cLst (fA es).a = _; rw [(fA_eq es).1]; rfl
  | .bin op a b => by show cBin op a b (fv a) (fv b) = _; rw [fv_eq a, fv_eq b]; rfl
  | .neg a => by show cNeg (fv a) = _; rw [fv_eq a]; rfl
  | .not a => by show cNot a (fv a) = _; rw [fv_eq a]; rfl
  | .and a b => by show cAnd (fv a) (fv b) = _; rw [fv_eq a, fv_eq b]; rfl
  | .or a b => by show cOr (fv a) (fv b) = _; rw [fv_eq a, fv_eq b]; rfl
  | .cmp op a b => by show cCmp op a b (fv a) (fv b) = _; rw [fv_eq a, fv_eq b]; rfl
  | .chain op op' a b c => by show cChain op op' a c (fv a) (fv b) (fv c) = _; rw [fv_eq a, fv_eq b, fv_eq c]; rfl
  | .ite c a b => by show cIte c (fv c) (fv a) (fv b) = _; rw [fv_eq a, fv_eq b, fv_eq c]; rfl
  | .call f as => by show cCall f as (fA as).b = _; rw [(fA_eq as).2]; rfl
  | .cal f as => by show cCal f as (fA as).b = _; rw [(fA_eq as).2]; rfl
  | .act _ => rfl
  | .lam f b => by show cLam f (fv b) = _; rw [fv_eq b]; rfl
  | .bi b as => by show cBi b as (fA as).b = _; rw [(fA_eq as).2]; rfl
  | .mt m a as => by show cMt m as (fv a) (fA as).b = _; rw [fv_eq a, (fA_eq as).2]; rfl
  | .mm m i as => by show cMm m i (fA as).a = _; rw [(fA_eq as).1]; rfl
  | .sub a b => by show cSub a (fv a) (fv b) = _; rw [fv_eq a, fv_eq b]; rfl
  | .sl a lo hi => by show cSl a (fv a) (fO lo).o (fO hi).o = _; rw [fv_eq a, (fO_eq lo).1, (fO_eq hi).1]; rfl
  | .rev a => by show cRev a (fv a) = _; rw [fv_eq a]; rfl
  | .lc own elt t it c => by show cLc own t (fv elt) (fI it) (fO c).c = _; rw [fv_eq elt, fI_eq it, (fO_eq c).2]; rfl
  | .dic ks vs => by funext l σ; cases ks <;> cases vs <;> rfl
  | .isx _ _ => rfl
  | .bad => rfl
theorem fA_eq : ∀ e, (fA e).a = evs e ∧ (fA e).b = evbs e
  | .nil => ⟨rfl, rfl⟩
  | .cons e es => by
    refine ⟨?_, ?_⟩
    · show cCons (fv e) (fA es).a = _; rw [fv_eq e, (fA_eq es).1]; rfl
    · show cConsB e (fv e) (fA es).b = _; rw [fv_eq e, (fA_eq es).2]; rfl
theorem fO_eq : ∀ e, (fO e).o = evo e ∧ (fO e).c = evc e
  | .none => ⟨rfl, rfl⟩
  | .some e => by
    refine ⟨?_, ?_⟩
    · show cSome (fv e) = _; rw [fv_eq e]; rfl
    · show cTest e (fv e) = _; rw [fv_eq e]; rfl
theorem fI_eq : ∀ e, fI e = evi e
  | .val e => by show cIval (fv e) = _; rw [fv_eq e]; rfl
  | .lst e => by show cIlst (fv e) = _; rw [fv_eq e]; rfl
  | .rng1 e => by show cIr1 (fv e) = _; rw [fv_eq e]; rfl
  | .rng2 a b => by show cIr2 (fv a) (fv b) = _; rw [fv_eq a, fv_eq b]; rfl
  | .enum e => by show cIen (fv e) = _; rw [fv_eq e]; rfl
  | .zip a b => by show cIzip (fv a) (fv b) = _; rw [fv_eq a, fv_eq b]; rfl
  | .bad => rfl
end
/-! ### statements -/
abbrev KS := Lv → Sd → R (Fl × Sd)
def dExpr (re : KE) : KS := fun l σ => (re l σ).bind fun p => .ok (.nx, p.2)
def dAsg (t : T) (re : KE) : KS := fun l σ => (re l σ).bind fun p => (asg t p.1 p.2).bind fun σ' => .ok (.nx, σ')
def dAsgr (i : Nat) (e : E) (re : KE) : KS := fun l σ => if freshE (frOf l.tb) e then (re l σ).bind fun p => if isContainer p.1 then .ok (.nx, p.2.set i (some p.1)) else .bad else .bad
def dPar (is : List (Nat × Bool)) (es : Es) (re : KEs) : KS := fun l σ => if parOk (frOf l.tb) is es then (re l σ).bind fun p => (setAll is p.1 p.2).bind fun σ' => .ok (.nx, σ')
    else .bad
def dSeti (i : Nat) (rk re : KE) : KS := fun l σ => (re l σ).bind fun p => (getS p.2 i).bind fun _ => (rk l p.2).bind fun q => (getS q.2 i).bind fun a => (R.ofO (setD a q.1 p.1)).bind fun b => .ok (.nx, q.2.set i (some b))
def dIfs (c : E) (rc : KE) (ra rb : KS) : KS := fun l σ => (lent c (rc l σ) σ).bind fun p => (R.ofO (tru p.1)).bind fun k => if k = true then ra l p.2 else rb l p.2
def dFor (t : T) (ri : KEs) (rb : KS) : KS := fun l σ => (ri l σ).bind fun p => forGo (fun x σ => (asg t x σ).bind fun σ1 => rb l σ1) p.1 p.2
def dWhile (c : E) (rc : KE) (rb : KS) : KS := fun l σ => whGo (fun σ => (lent c (rc l σ) σ).bind fun p => (R.ofO (tru p.1)).bind fun k => .ok (k, p.2)) (fun σ => rb l σ) WF σ
def dRet (e : E) (re : KE) : KS := fun l σ => (re l σ).bind fun p => if l.fr && !freshE (frOf l.tb) e && isContainer p.1 then .bad else .ok (.rt p.1, p.2)
def dRetr (i : Nat) : KS := fun _ σ => (getS σ i).bind fun d => .ok (.rt d, σ)
def dOk (f : Fl) : KS := fun _ σ => .ok (f, σ)
def dRaise (c : Nat) : KS := fun _ _ => .exc c
def dTry (rb : KS) (c : Nat) (i : Option Nat) (rh : KS) : KS := fun l σ => if l.hld.isSome then .bad else match rb l σ with
    | .ok q => .ok q
    | .exc c' => if l.sub c' c then (match rh { l with hld := some c' } (List.replicate σ.length none) with
        | .ok q => .ok (q.1, match i with
          | some i => q.2.set i none
          | none => q.2)
        | _ => .bad) else .exc c'
    | .bad => .bad
def dActs : KS := fun l σ => l.th.bind fun _ => .ok (.nx, σ)
def dBad : KS := fun _ _ => .bad
def dCons (rs rss : KS) : KS := fun l σ => (rs l σ).bind fun q => match q.1 with
    | .nx => rss l q.2
    | f => .ok (f, q.2)
noncomputable def fx (s : S) : KS := S.rec (motive_1 := fun _ => KS) (motive_2 := fun _ => KS)
  (fun e => dExpr (fv e)) (fun t e => dAsg t (fv e)) (fun i e => dAsgr i e (fv e)) (fun is es => dPar is es (fA es).a) (fun i k e => dSeti i (fv k) (fv e))
  (fun c _ _ ra rb => dIfs c (fv c) ra rb) (fun t it _ rb => dFor t (fI it) rb) (fun c _ rb => dWhile c (fv c) rb)
  (fun e => dRet e (fv e)) dRetr (dOk (.rt .non)) dRaise (fun _ c i _ rb rh => dTry rb c i rh) dActs (dOk .nx) (dOk .ct) (dOk .br) dBad
  (dOk .nx) (fun _ _ => dCons) s
noncomputable def fxs (s : Ss) : KS := Ss.rec (motive_1 := fun _ => KS) (motive_2 := fun _ => KS)
  (fun e => dExpr (fv e)) (fun t e => dAsg t (fv e)) (fun i e => dAsgr i e (fv e)) (fun is es => dPar is es (fA es).a) (fun i k e => dSeti i (fv k) (fv e))
  (fun c _ _ ra rb => dIfs c (fv c) ra rb) (fun t it _ rb => dFor t (fI it) rb) (fun c _ rb => dWhile c (fv c) rb)
  (fun e => dRet e (fv e)) dRetr (dOk (.rt .non)) dRaise (fun _ c i _ rb rh => dTry rb c i rh) dActs (dOk .nx) (dOk .ct) (dOk .br) dBad
  (dOk .nx) (fun _ _ => dCons) s
mutual
theorem fx_eq : ∀ s, fx s = ex s
  | .expr e => by show dExpr (fv e) = _; rw [fv_eq e]; rfl
  | .asg t e => by show dAsg t (fv e) = _; rw [fv_eq e]; rfl
  | .asgr i e => by show dAsgr i e (fv e) = _; rw [fv_eq e]; rfl
  | .par is es => by show dPar is es (fA es).a = _; rw [(fA_eq es).1]; rfl
  | .seti i k e => by show dSeti i (fv k) (fv e) = _; rw [fv_eq k, fv_eq e]; rfl
  | .ifs c a b => by show dIfs c (fv c) (fxs a) (fxs b) = _; rw [fv_eq c, fxs_eq a, fxs_eq b]; rfl
  | .for t it b => by show dFor t (fI it) (fxs b) = _; rw [fI_eq it, fxs_eq b]; rfl
  | .while c b => by show dWhile c (fv c) (fxs b) = _; rw [fv_eq c, fxs_eq b]; rfl
  | .ret e => by show dRet e (fv e) = _; rw [fv_eq e]; rfl
  | .retr _ => rfl
  | .retN => rfl
  | .raise _ => rfl
  | .tryx b c i h => by show dTry (fxs b) c i (fxs h) = _; rw [fxs_eq b, fxs_eq h]; rfl
  | .acts => rfl
  | .pass => rfl
  | .cont => rfl
  | .brk => rfl
  | .bad => rfl
theorem fxs_eq : ∀ s, fxs s = exs s
  | .nil => rfl
  | .cons s ss => by show dCons (fx s) (fxs ss) = _; rw [fx_eq s, fxs_eq ss]; rfl
end
noncomputable def frunFd (tb : List Fd) (sub : Nat → Nat → Bool) (F : Fns) (F2 : Option Fns) (Hd : Nat → R D → R D) (th : R D) (f : Nat) (as : List D) : R (D × List D) :=
  match tb[f]? with
  | none => .bad
  | some fd => if as.length = fd.ps.length then finish fd (fxs fd.body ⟨tb, fd.own, sub, F, F2, Hd, th, none, fd.fresh⟩ (start fd as)) else .bad
noncomputable def frunHd (tb : List Fd) (sub : Nat → Nat → Bool) (f : Nat) (r : R D) : R D :=
  match tb[f]? with
  | none => .bad
  | some fd => if fd.ps = [.b] ∧ fd.hd = true then (finish fd (fxs fd.body ⟨tb, fd.own, sub, fun _ _ => .bad, none, fun _ _ => .bad, r, none, fd.fresh⟩ (List.replicate fd.ns none))).bind fun q => .ok q.1 else .bad
noncomputable def fTs (tb : List Fd) (sub : Nat → Nat → Bool) : Nat → Fns × Option Fns × Option Fns
  | 0 => (fun _ _ => .bad, none, none)
  | n + 1 => (frunFd tb sub (fTs tb sub n).1 (fTs tb sub n).2.2 (frunHd tb sub) .bad, some (fTs tb sub n).1, (fTs tb sub n).2.1)
noncomputable def fFs (tb : List Fd) (sub : Nat → Nat → Bool) (n : Nat) : Fns := (fTs tb sub n).1
theorem frunFd_eq : frunFd = runFd := by
  funext tb sub F F2 Hd th f as
  unfold frunFd runFd
  cases tb[f]? with
  | none => rfl
  | some fd => simp only [fxs_eq]
theorem frunHd_eq : frunHd = runHd := by
  funext tb sub f r
  unfold frunHd runHd
  cases tb[f]? with
  | none => rfl
  | some fd => simp only [fxs_eq]
theorem fTs_eq (tb : List Fd) (sub : Nat → Nat → Bool) : ∀ n, fTs tb sub n = Ts tb sub n
  | 0 => rfl
  | n + 1 => by
    show (frunFd tb sub (fTs tb sub n).1 (fTs tb sub n).2.2 (frunHd tb sub) .bad, some (fTs tb sub n).1, (fTs tb sub n).2.1) = _
    rw [fTs_eq tb sub n, frunFd_eq, frunHd_eq]
    rfl
theorem fFs_eq : fFs = Fs := by
  funext tb sub n
  show (fTs tb sub n).1 = _
  rw [fTs_eq]
  rfl
end BF

/-! Top -/
set_option Elab.async false
set_option linter.all false
set_option maxRecDepth 100000
set_option maxHeartbeats 4000000
/-! From a law's statement to the small language. -/
namespace BF
open PySem PySem.Spec PyProof.Rows L2 He

/-! ### a plain def's parameters -/
def plainP (a : Arguments) : Bool := match a with
  | ⟨[], _, none, [], [], none, []⟩ => true
  | _ => false
def psOf (a : Arguments) : List Str := a.args.map (·.arg)
theorem lookup_zip {x : Str} {v : Value} : ∀ {ps : List Str} {us : List Value}, us.length = ps.length → ps.Nodup → x ∈ ps → ((ps.zip us).lookup x).isSome = true
  | [], _, _, _, h => by cases h
  | p :: ps, [], h, _, _ => by cases h
  | p :: ps, u :: us, hl, hn, h => by
    show (List.lookup x ((p, u) :: ps.zip us)).isSome = true
    unfold List.lookup
    cases q : (x == p) with
    | true => rfl
    | false =>
      have : x ≠ p := fun e => by rw [e] at q; simp at q
      exact lookup_zip (v := v) (by simpa using hl) (List.nodup_cons.mp hn).2 ((List.mem_cons.mp h).resolve_left this)
theorem filterMap_zip : ∀ {ps : List Str} {us : List Value} {l : List (Str × Value)}, us.length = ps.length → ps.Nodup → (∀ x ∈ ps, l.lookup x = (ps.zip us).lookup x) → ps.filterMap (fun n => (l.lookup n).map (n, ·)) = ps.zip us
  | [], _, _, _, _, _ => rfl
  | p :: ps, [], _, h, _, _ => by cases h
  | p :: ps, u :: us, l, hl, hn, h => by
    obtain ⟨n1, n2⟩ := List.nodup_cons.mp hn
    have e : l.lookup p = some u := by
      rw [h p List.mem_cons_self]
      simp
    rw [List.filterMap_cons, e]
    show (p, u) :: _ = (p, u) :: ps.zip us
    congr 1
    refine filterMap_zip (by simpa using hl) n2 fun x hx => ?_
    rw [h x (List.mem_cons_of_mem _ hx)]
    have ne : (x == p) = false := by
      cases q : (x == p) with
      | false => rfl
      | true =>
        have e := eq_of_beq q
        rw [e] at hx
        exact absurd hx n1
    rw [List.zip_cons_cons, List.lookup_cons, ne]
theorem bind_plain {fd : FuncData} {us : List Value} (hp : plainP fd.params = true) (hd : fd.defaults = .none) (hn : (psOf fd.params).Nodup) (hl : us.length = (psOf fd.params).length) : bindArgs fd ⟨us, []⟩ = pure ((psOf fd.params).zip us) := by
  obtain ⟨n1, n2, ⟨a1, a2, a3, a4, a5, a6, a7⟩, n4, n5, n6, n7, n8, n9, n10, n11, n12, n13, n14, n15⟩ := fd
  unfold plainP at hp
  split at hp
  · rename_i e
    cases e
    cases hd
    unfold bindArgs
    unfold psOf at hn hl ⊢
    dsimp only at hn hl ⊢
    generalize (a2.map (·.arg)) = L at hn hl ⊢
    have h2 : L.filter (fun n => ((L.zip us).lookup n).isNone) = [] := by
      rw [List.filter_eq_nil_iff]
      intro x hx
      have := lookup_zip (v := .none) hl hn hx
      cases q : (L.zip us).lookup x with
      | none => rw [q] at this; cases this
      | some u => simp
    have h3 := filterMap_zip (l := L.zip us) hl hn fun _ _ => rfl
    have h4 : seqItems? Value.none = pure none := rfl
    simp [h4, h2, h3, hl]
  · cases hp
/-! ### what is written of a law -/
structure Rw where
  fd : Fd
  i : Nat
  N : List Str
  lm : Bool
structure Lw where
  p : Program
  rows : List Rw
  excs : List Str
  con : List (Str × D)
  anc : List (List Nat)
def dAt (p : Program) (i : Nat) : DefD := match p.main.body[i]? with
  | some (.FunctionDef n a b _ _ _ sc _ _ _) => ⟨(n, none), n, n, a, b, sc, [], []⟩
  | _ => ⟨("law", none), "law", "law", ⟨[], [], none, [], [], none, []⟩, [], ⟨.function, [], false, false, []⟩, [], []⟩
theorem dAt_at (p : Program) (i : Nat) : (dAt p i).at_ = ((dAt p i).name, none) ∧ (dAt p i).qual = (dAt p i).name ∧ (dAt p i).dfl = [] ∧ (dAt p i).kwd = [] := by
  unfold dAt
  split <;> exact ⟨rfl, rfl, rfl, rfl⟩
def Lw.d (L : Lw) (r : Rw) : DefD := dAt L.p r.i
def Lw.fns (L : Lw) : List Str := L.rows.map fun r => (L.d r).name
def Lw.fdO (L : Lw) (fns : List Str) (r : Rw) : Fd := { r.fd with body := trFd fns L.con L.excs r.lm r.N r.fd (L.d r).body (L.d r).scope }
def Lw.tbO (L : Lw) : List Fd := L.rows.map (L.fdO L.fns)
def Lw.sub (L : Lw) (a b : Nat) : Bool := (L.anc.getD a (L.anc.headD [])).contains b
def scB (N P : List Str) (sc : Scope) : Bool := (match sc.kind with | .function => true | _ => false) && !sc.isCoroutine && !sc.isGenerator && decide N.Nodup && decide (N.take P.length = P) &&
  P.all (fun x => match sc.names.lookup x with | some .local => true | some .cell => true | _ => false) && sc.names.all (fun y => match y.2 with | .free => false | _ => true)
theorem scB_ok {N P : List Str} {sc : Scope} (h : scB N P sc = true) : FnScope N P sc := by
  unfold scB at h
  simp only [Bool.and_eq_true, Bool.not_eq_true', decide_eq_true_eq] at h
  obtain ⟨⟨⟨⟨⟨⟨h1, h2⟩, h3⟩, h4⟩, h5⟩, h6⟩, h7⟩ := h
  refine ⟨?_, h2, h3, h4, h5, fun x hx => ?_, fun y hy e => ?_⟩
  · split at h1
    · assumption
    · cases h1
  · have := List.all_eq_true.mp h6 x hx
    split at this
    · rename_i e; exact .inl e
    · rename_i e; exact .inr e
    · cases this
  · have := List.all_eq_true.mp h7 y hy
    rw [e] at this
    cases this
def Lw.rowB (L : Lw) (r : Rw) : Bool := scB r.N (psOf (L.d r).params) (L.d r).scope && plainP (L.d r).params && (psOf (L.d r).params).length == r.fd.ps.length && fdOk r.fd r.N && (!r.fd.hd || !r.lm)
def conFa (q : Str × D) : Fa := match q.2 with
  | .int i => .int q.1 i
  | .str z => .str q.1 z
  | _ => .free q.1
def conB (q : Str × D) : Bool := match q.2 with
  | .int _ => true
  | .str _ => true
  | _ => false
def Lw.prs (L : Lw) : List (Str × Str × Bool) := (List.range L.excs.length).flatMap fun a => (List.range L.excs.length).map fun b => (L.excs.getD a "", L.excs.getD b "", L.sub a b)
def Lw.fa (L : Lw) : List Fa := L.fns.map .glo ++ L.excs.map .glo ++ bltN.map .free ++ L.excs.map .exc ++ L.con.map conFa ++ L.prs.map fun q => .exm q.1 q.2.1 q.2.2
def Lw.fn (L : Lw) : List DefD := L.rows.map L.d
def Lw.tf (L : Lw) : List Defn := (L.rows.filter (·.lm)).map fun r => ((L.d r).name, none)
def excCB (K : PySem.W.Frag) (D : Addr) : Bool :=
  decide (PySem.W.findIn K (.ref D) "__getattribute__" = some (some (.builtin "BaseException.__getattribute__"))) &&
  decide (PySem.W.findIn K (.ref D) "__getattr__" = some none) &&
  decide (PySem.W.subIn K (.ref D) (.type "BaseException") = some true) && PySem.W.hasDictIn K D &&
  decide (PySem.W.findIn K (.ref D) "__class__" = some (some (.builtin "object.__class__"))) &&
  decide (PySem.W.specialIn K (.builtin "object.__class__") "__get__" = some (some (.builtin "getset_descriptor.__get__"))) &&
  decide (PySem.W.takesIn K (.builtin "object.__class__") = some true) && decide (PySem.W.mroIn K D (.type "object") = some true)
theorem excCB_ok {K : PySem.W.Frag} {D : Addr} (h : excCB K D = true) : ExcC K D := by
  unfold excCB at h
  simp only [Bool.and_eq_true, decide_eq_true_eq] at h
  obtain ⟨⟨⟨⟨⟨⟨⟨h1, h2⟩, h3⟩, h4⟩, h5⟩, h6⟩, h7⟩, h8⟩ := h
  exact ⟨h1, h2, h3, h4, h5, h6, h7, h8⟩
def Lw.ex (L : Lw) (K : PySem.W.Frag) : Bool := L.excs.all (fun x => excCB K (ga K x)) && L.prs.all (fun q => decide (PySem.W.kitOne K (.ref (ga K q.1)) (.ref (ga K q.2.1)) = some q.2.2)) && decide ((L.tf.map fun p => (cT K p).2).Nodup)
def Lw.Z (L : Lw) (tb : List Fd) (K : PySem.W.Frag) : Wd where
  K := K
  fad := fun i => ga K (L.fns.getD i "law")
  cad := fun i => ga K (L.excs.getD i (L.excs.headD ""))
  T := L.tf.map fun p => ((cT K p).2, p.1 ++ ".<locals>." ++ "<lambda>")
  tb := tb
  sub := L.sub
theorem nodup_inj {α β : Type} {f : α → β} : ∀ {l : List α}, (l.map f).Nodup → ∀ {a b : α}, a ∈ l → b ∈ l → f a = f b → a = b
  | [], _, _, _, h, _, _ => by cases h
  | x :: l, hn, a, b, ha, hb, e => by
    obtain ⟨n1, n2⟩ := List.nodup_cons.mp (show (f x :: l.map f).Nodup from hn)
    rcases List.mem_cons.mp ha with h1 | h1
    · rcases List.mem_cons.mp hb with h2 | h2
      · rw [h1, h2]
      · exact absurd (List.mem_map.mpr ⟨b, h2, by rw [← e, h1]⟩) n1
    · rcases List.mem_cons.mp hb with h2 | h2
      · exact absurd (List.mem_map.mpr ⟨a, h1, by rw [e, h2]⟩) n1
      · exact nodup_inj n2 h1 h2 e
/-- what is checked of the text alone -/
structure Lw.Ok (L : Lw) (tb : List Fd) : Prop where
  tb : L.tbO = tb
  rows : L.rows.all L.rowB = true
  con : L.con.all conB = true
  anc : L.anc.length = L.excs.length
  e0 : L.excs ≠ []
section
variable {L : Lw} {tb : List Fd} {P : Program} {w : World} {K : PySem.W.Frag} {mg : Str → Option Value} {base : Heap}
theorem slotGo_mem {x : Str} {N : List Str} {i : Nat} (h : slotGo x N 0 = some i) : N[i]? = some x := slot_at h
theorem Lw.Ok.subD (o : L.Ok tb) (k' b : Nat) : L.sub k' b = L.sub (if k' < L.excs.length then k' else 0) b := by
  unfold Lw.sub
  by_cases h : k' < L.excs.length
  · rw [if_pos h]
  · rw [if_neg h]
    have h1 : L.anc.getD k' (L.anc.headD []) = L.anc.headD [] := by
      rw [List.getD_eq_getElem?_getD, List.getElem?_eq_none_iff.mpr (by rw [o.anc]; omega)]
      rfl
    have h2 : L.anc.getD 0 (L.anc.headD []) = L.anc.headD [] := by
      cases L.anc <;> rfl
    rw [h1, h2]
theorem Lw.Ok.cadD (o : L.Ok tb) (k' : Nat) : L.excs.getD k' (L.excs.headD "") = L.excs.getD (if k' < L.excs.length then k' else 0) "" := by
  have hp : 0 < L.excs.length := List.length_pos_iff.mpr o.e0
  by_cases h : k' < L.excs.length
  · rw [if_pos h]
    simp [List.getD_eq_getElem?_getD, List.getElem?_eq_getElem h]
  · rw [if_neg h]
    rw [List.getD_eq_getElem?_getD, List.getElem?_eq_none_iff.mpr (by omega), List.getD_eq_getElem?_getD]
    cases q : L.excs with
    | nil => exact absurd q o.e0
    | cons a r => rfl
theorem Lw.Ok.idx (o : L.Ok tb) (k' : Nat) : (if k' < L.excs.length then k' else 0) < L.excs.length := by
  have hp : 0 < L.excs.length := List.length_pos_iff.mpr o.e0
  split <;> omega
theorem Lw.Ok.prs_mem {a b : Nat} (ha : a < L.excs.length) (hb : b < L.excs.length) : (L.excs.getD a "", L.excs.getD b "", L.sub a b) ∈ L.prs := by
  unfold Lw.prs
  exact List.mem_flatMap.mpr ⟨a, List.mem_range.mpr ha, List.mem_map.mpr ⟨b, List.mem_range.mpr hb, rfl⟩⟩
theorem getD_of {x : Str} {N : List Str} {i : Nat} {y : Str} (h : N[i]? = some x) : N.getD i y = x := by
  rw [List.getD_eq_getElem?_getD, h]; rfl
theorem getD_mem {N : List Str} {i : Nat} {y : Str} (h : i < N.length) : N.getD i y ∈ N := by
  rw [List.getD_eq_getElem?_getD, List.getElem?_eq_getElem h]; exact List.getElem_mem h
/-- the module's names -/
theorem Lw.Ok.gb (o : L.Ok tb) (c : SaysD L.fa L.fn K) (e : L.ex K = true) (X : K.In base) (G : base.Ns mainGlobals mg) : Gb (L.Z tb K) mg L.fns L.con L.excs L.sub := by
  have fact : ∀ {f : Fa}, f ∈ L.fa → f.ok K = true := fun h => c.facts h
  have m1 : ∀ x ∈ L.fns, Fa.glo x ∈ L.fa := fun x hx => by
    unfold Lw.fa; simp only [List.mem_append, List.mem_map]; exact .inl (.inl (.inl (.inl (.inl ⟨x, hx, rfl⟩))))
  have m2 : ∀ x ∈ L.excs, Fa.glo x ∈ L.fa := fun x hx => by
    unfold Lw.fa; simp only [List.mem_append, List.mem_map]; exact .inl (.inl (.inl (.inl (.inr ⟨x, hx, rfl⟩))))
  have m3 : ∀ x ∈ bltN, Fa.free x ∈ L.fa := fun x hx => by
    unfold Lw.fa; simp only [List.mem_append, List.mem_map]; exact .inl (.inl (.inl (.inr ⟨x, hx, rfl⟩)))
  have m4 : ∀ x ∈ L.excs, Fa.exc x ∈ L.fa := fun x hx => by
    unfold Lw.fa; simp only [List.mem_append, List.mem_map]; exact .inl (.inl (.inr ⟨x, hx, rfl⟩))
  have m5 : ∀ q ∈ L.con, conFa q ∈ L.fa := fun q hq => by
    unfold Lw.fa; simp only [List.mem_append, List.mem_map]; exact .inl (.inr ⟨q, hq, rfl⟩)
  have m6 : ∀ q ∈ L.prs, Fa.exm q.1 q.2.1 q.2.2 ∈ L.fa := fun q hq => by
    unfold Lw.fa; simp only [List.mem_append, List.mem_map]; exact .inr ⟨q, hq, rfl⟩
  unfold Lw.ex at e
  simp only [Bool.and_eq_true] at e
  obtain ⟨⟨e1, e2⟩, e3⟩ := e
  refine ⟨fun x i h => ?_, fun x d _ h => ?_, fun x hx => free_ok X G (fact (m3 x hx)), fun x i h => ?_, fun x k h k' => ?_, fun x k h k' => ?_, fun k' => ?_⟩
  · have h := slotGo_mem h
    show mg x = some (.ref (ga K (L.fns.getD i "law")))
    rw [getD_of h]
    exact glo_ok X G (fact (m1 x (List.mem_of_getElem? h)))
  · have hm : (x, d) ∈ L.con := by
      have : ∀ l : List (Str × D), l.lookup x = some d → (x, d) ∈ l := by
        intro l
        induction l with
        | nil => intro h; cases h
        | cons q r ih =>
          intro h
          obtain ⟨y, u⟩ := q
          rw [List.lookup_cons] at h
          cases z : (x == y) with
          | true => rw [z] at h; cases h; rw [eq_of_beq z]; exact List.mem_cons_self
          | false => rw [z] at h; exact List.mem_cons_of_mem _ (ih h)
      exact this _ h
    have hc := List.all_eq_true.mp o.con _ hm
    have hf := fact (m5 _ hm)
    cases d with
    | int i =>
      obtain ⟨t, ht⟩ := int_ok X G (show (Fa.int x i).ok K = true from hf)
      exact ⟨_, .int i, ht, ⟨t, rfl⟩, fun H => .int i⟩
    | str z =>
      obtain ⟨t, ht⟩ := str_ok X G (show (Fa.str x z).ok K = true from hf)
      exact ⟨_, .str z, ht, ⟨t, rfl⟩, fun H => .str z⟩
    | _ => cases hc
  · have h := slotGo_mem h
    have hm := List.mem_of_getElem? h
    show mg x = some (.ref (ga K (L.excs.getD i _))) ∧ PySem.W.keepIn K (.ref (ga K (L.excs.getD i _))) = true ∧ (∃ (bmB : List Value) (B newId initId : String), ExcBaseFacts B newId initId bmB ∧ PySem.W.excIn K (ga K (L.excs.getD i _)) bmB newId = true) ∧ PySem.W.subIn K (.ref (ga K (L.excs.getD i _))) (.type "BaseException") = some true ∧ PySem.W.typeIn K (.ref (ga K (L.excs.getD i _))) = some (.type "type")
    rw [getD_of h]
    obtain ⟨h1, h2, h3, h4⟩ := He.exc_ok (fact (m4 x hm))
    exact ⟨glo_ok X G (fact (m2 x hm)), h2, ⟨_, _, _, _, PySem.F.excBase_ValueError, h1⟩, h3, h4⟩
  · have h := slotGo_mem h
    have hk : k < L.excs.length := (List.getElem?_eq_some_iff.mp h).1
    show PySem.W.exmOne K (.ref (ga K (L.excs.getD k' _))) (.ref (ga K (L.excs.getD k _))) = some (L.sub k' k)
    rw [o.cadD k', o.cadD k, o.subD k' k, if_pos hk]
    exact exm_ok (fact (m6 _ (Lw.Ok.prs_mem (o.idx k') hk)))
  · have h := slotGo_mem h
    have hk : k < L.excs.length := (List.getElem?_eq_some_iff.mp h).1
    show PySem.W.kitOne K (.ref (ga K (L.excs.getD k' _))) (.ref (ga K (L.excs.getD k _))) = some (L.sub k' k)
    rw [o.cadD k', o.cadD k, o.subD k' k, if_pos hk]
    exact of_decide_eq_true (List.all_eq_true.mp e2 _ (Lw.Ok.prs_mem (o.idx k') hk))
  · show ExcC K (ga K (L.excs.getD k' _))
    rw [o.cadD k']
    exact excCB_ok (List.all_eq_true.mp e1 _ (getD_mem (o.idx k')))

/-- a def of the table, as it stands -/
theorem Lw.Ok.def_ (o : L.Ok tb) (c : SaysD L.fa L.fn K) (e : L.ex K = true) (HT : ∀ p ∈ L.tf.map (cT K), LamX.TabB base mg p.1 p.2) {f : Nat} {fd : Fd} (hf : tb[f]? = some fd) :
    ∃ r, L.rows[f]? = some r ∧ ∃ (kV doc pm cdv ct oc : Value) (an od : Option Addr) (osl : Array (Option Value)),
      DefOk (L.Z tb K) mg base L.fns L.con L.excs f fd r.lm (L.d r).name (L.d r).name (L.d r).params (L.d r).body (L.d r).scope .none kV doc pm cdv ct oc an od osl r.N (psOf (L.d r).params) := by
  rw [← o.tb] at hf
  unfold Lw.tbO at hf
  rw [List.getElem?_map] at hf
  cases hr : L.rows[f]? with
  | none => rw [hr] at hf; cases hf
  | some r =>
    rw [hr] at hf
    have hfd : L.fdO L.fns r = fd := by simpa using hf
    subst hfd
    refine ⟨r, rfl, ?_⟩
    have hm := List.mem_of_getElem? hr
    have hb := List.all_eq_true.mp o.rows r hm
    unfold Lw.rowB at hb
    simp only [Bool.and_eq_true, beq_iff_eq] at hb
    obtain ⟨⟨⟨⟨b1, b2⟩, b3⟩, b4⟩, b5⟩ := hb
    have hd : L.fn[f]? = some (L.d r) := by unfold Lw.fn; rw [List.getElem?_map, hr]; rfl
    obtain ⟨fdt, FD⟩ := c.def_ f hd
    obtain ⟨oc, od, dV, kV, doc, pm, an, cdv, ct, osl, rfl, lk, hcd, hD, _⟩ := FD.ex
    obtain ⟨a1, a2, a3, a4⟩ := dAt_at L.p r.i
    have ea : fAd K (L.d r).at_ = ga K (L.d r).name := by
      show fAd K (dAt L.p r.i).at_ = _
      rw [a1]; rfl
    have ef : (L.Z tb K).fad f = ga K (L.d r).name := by
      show ga K (L.fns.getD f "law") = _
      have : L.fns[f]? = some (L.d r).name := by unfold Lw.fns; rw [List.getElem?_map, hr]; rfl
      rw [getD_of this]
    have e0 : (L.d r).dvs K = [] := by
      show (dAt L.p r.i).dfl.map _ = []
      rw [a3]; rfl
    have eq_ : (L.d r).qual = (L.d r).name := a2
    have hdV : dV = .none := by
      rw [e0] at hD
      rcases hD with ⟨_, q⟩ | ⟨q, _⟩
      · exact q
      · exact absurd rfl q
    subst hdV
    rw [eq_] at lk hcd
    have hnd : (psOf (L.d r).params).Nodup := by
      have S := scB_ok b1
      rw [← S.pre]
      exact (List.take_sublist _ _).nodup S.nd
    refine ⟨kV, doc, pm, cdv, ct, oc, an, od, osl, ?_⟩
    exact {
      lk := by rw [ef, ← ea]; exact lk
      cd := hcd
      S := scB_ok b1
      len := b3
      ok := b4
      tr := rfl
      bd := .all fun us hl => bind_plain b2 rfl hnd hl
      kp := by rw [ef, ← ea]; exact FD.kp
      lam := fun hl => by
        obtain ⟨cc, ecc⟩ := He.codeIn_ref hcd
        subst ecc
        have hmem : ((L.d r).name, (none : Option Str)) ∈ L.tf := by
          unfold Lw.tf
          exact List.mem_map.mpr ⟨r, List.mem_filter.mpr ⟨hm, hl⟩, rfl⟩
        have hc0 : codeOf K ((L.d r).name, none) = cc := codeOf_eq (by show K.lookup (ga K (L.d r).name) = _; rw [← ea]; exact lk) rfl
        refine ⟨cc, tabOf K cc, ?_, rfl, ?_, ?_⟩
        · have := HT (cT K ((L.d r).name, none)) (List.mem_map.mpr ⟨_, hmem, rfl⟩)
          unfold cT at this
          rw [hc0] at this
          exact this
        · show _ ∈ L.tf.map fun p => ((cT K p).2, p.1 ++ ".<locals>." ++ "<lambda>")
          refine List.mem_map.mpr ⟨_, hmem, ?_⟩
          unfold cT
          rw [hc0]
        · intro p hp e1
          obtain ⟨q, hq, rfl⟩ := List.mem_map.mp (show p ∈ L.tf.map fun p => ((cT K p).2, p.1 ++ ".<locals>." ++ "<lambda>") from hp)
          have hnT : (L.tf.map fun p => (cT K p).2).Nodup := by
            unfold Lw.ex at e
            simp only [Bool.and_eq_true, decide_eq_true_eq] at e
            exact e.2
          have : (cT K q).2 = (cT K ((L.d r).name, none)).2 := by
            show _ = tabOf K (codeOf K _)
            rw [hc0]
            exact e1
          have := nodup_inj hnT hq hmem this
          rw [this]
      hd := fun h => by
        cases hl : r.lm with
        | false => rfl
        | true =>
          have h2 : r.fd.hd = true := h
          rw [h2, hl] at b5
          cases b5 }
theorem Lw.Ok.defE (o : L.Ok tb) (c : SaysD L.fa L.fn K) (e : L.ex K = true) (HT : ∀ p ∈ L.tf.map (cT K), LamX.TabB base mg p.1 p.2) (f : Nat) (fd : Fd) (hf : tb[f]? = some fd) : DefE (L.Z tb K) mg base L.fns L.con L.excs f fd := by
  obtain ⟨r, _, kV, doc, pm, cdv, ct, oc, an, od, osl, d⟩ := o.def_ c e HT hf
  exact ⟨_, _, _, _, _, _, _, _, _, _, _, _, _, _, _, _, _, _, d⟩
/-- one def, at its level -/
theorem fn_at {Z : Wd} {fns : List Str} {con : List (Str × D)} {excs : List Str} (G : Gb Z mg fns con excs Z.sub) (hT : ∀ f fd, Z.tb[f]? = some fd → DefE Z mg base fns con excs f fd) {f : Nat} {fd : Fd} (hf : Z.tb[f]? = some fd) {lm : Bool} {name qual : Str} {params : Arguments} {body : List Stmt} {scope : Scope} {dV kV doc pm cdv ct oc : Value} {an od : Option Addr} {osl : Array (Option Value)} {N ps : List Str}
    (d : DefOk Z mg base fns con excs f fd lm name qual params body scope dV kV doc pm cdv ct oc an od osl N ps) (n : Nat) : FnOk P w Z.K mg base (L2N.CX P w) (n + 1) (Z.fad f) (PySem.W.fnOf name qual params body scope dV kV doc pm an cdv ct) ps (spF Z fd (Fs Z.tb Z.sub (n + 1) f)) := by
  have all_ : ∀ m, Lev P w Z mg base m := lev_all (lamH_true hotH) hotH G hT
  refine fn_of d.lk d.cd d.S (fun vs H Q E h => ?_) (fun A outer s H vs Q E hr h => ?_)
  · obtain ⟨O, ds, _, ha, _⟩ := h
    rw [(argR_len ha).2, d.len]
  · obtain ⟨O, hB, g⟩ := fn_start (N := N) (l := ⟨Z.tb, fd.own, Z.sub, (Ts Z.tb Z.sub n).1, (Ts Z.tb Z.sub n).2.2, runHd Z.tb Z.sub, .bad, none, fd.fresh⟩) d.ok (fun ds hd => by
      show runFd Z.tb Z.sub _ _ _ _ f ds = _
      unfold runFd
      rw [hf]
      exact if_pos hd) h
    have := (ss_all (lamH_true hotH) hotH 100).ss (okS_of (bb := true) (A := A) (outer := outer) (s := s) (E := E) hT G (all_ n) (fun m _ => all_ m) d (fun _ => rfl) hr hB) body
    refine ⟨_, this, ?_⟩
    have e : trSs 100 (tcOf fns con excs lm N fd scope) body = fd.body := d.tr
    rw [e]
    exact g
end

abbrev Lw.hook (L : Lw) (n : Nat) : PySem.W.Hook := hookX n L.fa L.fn [] L.tf L.ex
/-- what a law's walk asks: that the small language says true -/
theorem law_at {l : PySem.W.OpenLaw} {L : Lw} {tb : List Fd} (o : L.Ok tb) {hn idx n : Nat} {fdl : Fd} {rl : Rw} (hf : tb[idx]? = some fdl) (hr : L.rows[idx]? = some rl) (hps : fdl.ps = [.b]) (hsc : psOf (L.d rl).params = [("script" : Str)]) (hnm : (L.d rl).name = ("law" : Str))
    (hlaw : ∀ ns : List Int, ns.length ≤ 63 → ∃ ms, Fs tb L.sub (n + 1) idx [.frz (intL ns)] = .ok (.bl true, ms)) (w : World) (mg : Str → Option Value) (fa : Addr) (h : Heap) (Y : (L.hook hn).says w h) (G : h.Ns mainGlobals mg) (hmg : mg ("law" : Str) = some (.ref fa)) :
    ∃ K : PySem.W.Frag, K.In h ∧ LamX.LawAtS l w K (L2N.CX l.prog w) (n + 1) 63 "script" mg fa h := by
  obtain ⟨K, KX, c⟩ := Y
  refine ⟨K, KX, ?_⟩
  have cd : SaysD L.fa L.fn K := SaysT.d c.t
  have hd : L.fn[idx]? = some (L.d rl) := by unfold Lw.fn; rw [List.getElem?_map, hr]; rfl
  obtain ⟨fdt, FD⟩ := cd.def_ idx hd
  obtain ⟨oc0, od0, dV0, kV0, doc0, pm0, an0, cdv0, ct0, osl0, efdt, lk0, _, hD0, _⟩ := FD.ex
  obtain ⟨a1, a2, a3, a4⟩ := dAt_at L.p rl.i
  have ea : fAd K (L.d rl).at_ = ga K (L.d rl).name := by
    show fAd K (dAt L.p rl.i).at_ = _
    rw [a1]; rfl
  have efn : L.fns[idx]? = some (L.d rl).name := by unfold Lw.fns; rw [List.getElem?_map, hr]; rfl
  have ef : (L.Z tb K).fad idx = ga K (L.d rl).name := by
    show ga K (L.fns.getD idx "law") = _
    rw [getD_of efn]
  have efa : ga K (L.d rl).name = fa := by
    have mem : Fa.glo (L.d rl).name ∈ L.fa := by
      unfold Lw.fa; simp only [List.mem_append, List.mem_map]; exact .inl (.inl (.inl (.inl (.inl ⟨_, List.mem_of_getElem? efn, rfl⟩))))
    have := glo_ok KX G (cd.facts mem)
    rw [hnm] at this ⊢
    rw [hmg] at this
    simpa using this.symm
  have hrow := List.all_eq_true.mp o.rows rl (List.mem_of_getElem? hr)
  unfold Lw.rowB at hrow
  simp only [Bool.and_eq_true, beq_iff_eq] at hrow
  obtain ⟨⟨⟨⟨b1, b2⟩, b3⟩, b4⟩, b5⟩ := hrow
  have hdV : dV0 = .none := by
    have e0 : (L.d rl).dvs K = [] := by
      show (dAt L.p rl.i).dfl.map _ = []
      rw [a3]; rfl
    rw [e0] at hD0
    rcases hD0 with ⟨_, q⟩ | ⟨q, _⟩
    · exact q
    · exact absurd rfl q
  have csm : ∀ p ∈ L.tf.map (cT K), ∃ q ∈ L.tf, cT K q = p := fun p hp => by
    obtain ⟨q, h1, h2⟩ := List.mem_map.mp hp
    exact ⟨q, h1, h2⟩
  refine ⟨fdt, L.tf.map (cT K), spF (L.Z tb K) fdl (Fs tb L.sub (n + 1) idx), fun p hp => ?_, fun p hp => ?_, fun p hp => ?_, fun s u => ?_, fun H a ns hl _ hT hS => ?_, fun base KB GB HT => ?_⟩
  · obtain ⟨q, h1, rfl⟩ := csm p hp
    exact c.empty q h1
  · obtain ⟨q, h1, rfl⟩ := csm p hp
    exact c.out q h1
  · obtain ⟨q, h1, rfl⟩ := csm p hp
    exact PySem.W.codeHd_of_K KX (c.hd q h1)
  · have hnd : (psOf (L.d rl).params).Nodup := by rw [hsc]; decide
    have := bind_plain (fd := fdt) (us := [u]) (by rw [efdt]; exact b2) (by rw [efdt, hdV] <;> rfl) (by rw [efdt]; exact hnd) (by rw [efdt]; show _ = (psOf (L.d rl).params).length; rw [hsc]; rfl)
    refine .of_eq ?_
    rw [this]
    have e1 : psOf fdt.params = [("script" : Str)] := by rw [efdt]; exact hsc
    rw [e1]
    rfl
  · obtain ⟨ms, hE⟩ := hlaw ns hl
    refine ⟨fun _ => False, [.frz (intL ns)], ⟨fun _ z => z.elim, fun p hp => ?_⟩, ?_, ?_, ?_⟩
    · obtain ⟨q, hq, rfl⟩ := List.mem_map.mp (show p ∈ L.tf.map fun p => ((cT K p).2, p.1 ++ ".<locals>." ++ "<lambda>") from hp)
      exact LamX.TabS.nil (hT _ (List.mem_map.mpr ⟨q, hq, rfl⟩))
    · rw [hps]
      refine ⟨.inl (.frz (vs := ns.map V.int) ?_ ?_), trivial⟩
      · rcases hS with r | r
        · refine .inl ?_
          rcases r with r | ⟨ob, r⟩
          · exact .inl (hide_some.mpr ⟨⟨fun z => z, nt_lst⟩, r⟩)
          · refine .inr ⟨ob, hide_some.mpr ⟨⟨fun z => z, fun _ z => nomatch z⟩, r⟩⟩
        · exact .inr r
      · unfold intL
        have reps : ∀ l : List Int, Reps (L.Z tb K) (hide H fun _ => False) (l.map D.int) (l.map V.int) := fun l => by
          induction l with
          | nil => exact .nil
          | cons x r ih => exact .cons (.int x) ih
        exact reps ns
    · rw [hps]; exact List.nodup_nil
    · rw [hE]
      intro v H' _ _ hR
      have h1 := hR.1.1
      cases h1
      rfl
  · have G' := o.gb cd c.more KB GB
    have hT' := fun f fd hf => o.defE cd c.more HT f fd hf
    obtain ⟨r, hr2, kV, doc, pm, cdv, ct, oc, an, od, osl, d⟩ := o.def_ cd c.more HT hf
    rw [hr] at hr2
    cases hr2
    have F := fn_at (P := l.prog) (w := w) (Z := L.Z tb K) G' hT' hf d n
    have lk := d.lk
    rw [ef] at lk F
    rw [ea] at lk0
    have lk' : K.lookup (ga K (L.d rl).name) = _ := lk
    rw [lk0] at lk'
    injection lk' with e1
    injection e1 with _ _ e2 _
    injection e2 with e3
    rw [← e3, efa, hsc] at F
    exact F
/-- nothing leaves a law -/
theorem law_nox (P : Program) (w : World) (H : Hp) (s : Shared) (e : Value) (s' : Shared) (h : L2N.CX P w [] H s (fun _ _ _ => False) e s') : False := by
  obtain ⟨_, _, _, _, _, _, _, _, _, _, _, _, q⟩ := h
  exact q
/-- the whole: the walk of a law's call -/
theorem law_walk {l : PySem.W.OpenLaw} {L : Lw} {tb : List Fd} (o : L.Ok tb) {q : Program} {loose : List Str} {XP : (Str → Option Value) → Heap → Prop} {dr : DefRec} {hn idx n : Nat} {fdl : Fd} {rl : Rw} (hf : tb[idx]? = some fdl) (hr : L.rows[idx]? = some rl) (hps : fdl.ps = [.b]) (hsc : psOf (L.d rl).params = [("script" : Str)]) (hnm : (L.d rl).name = ("law" : Str))
    (hm : l.most = some 63) (hdf : dr.params.defaults = []) (hdn : dr.name = ("law" : Str)) (hroom : n + 1 ≤ 220)
    (hlaw : ∀ ns : List Int, ns.length ≤ 63 → ∃ ms, Fs tb L.sub (n + 1) idx [.frz (intL ns)] = .ok (.bl true, ms)) :
    PySem.W.WalkO q loose XP (L.hook hn).says l.row.toRowW dr [] (fun f vs => PySem.call f vs) :=
  LamX.walk_ofTsE (l := l) (n := 63) (k := n + 1) (x := "script") (CX := fun w => L2N.CX l.prog w) hm (by decide) hdf (Room.mono (k := 220) ⟨rfl, by decide, by decide⟩ hroom)
    (fun w mg fa h Y G hmg => law_at o hf hr hps hsc hnm hlaw w mg fa h Y G (by rw [← hdn]; exact hmg)) fun w H s e s' z => law_nox _ w H s e s' z
end BF

/-! Sx -/
set_option linter.all false
set_option maxRecDepth 100000
/-! The small language run on letters: what each word does, as equations. -/
namespace BF
open PySem
section
variable {α β γ : Type}
@[simp] theorem bind_ok (a : α) (f : α → R β) : (R.ok a).bind f = f a := rfl
@[simp] theorem bind_exc (c : Nat) (f : α → R β) : (R.exc c).bind f = .exc c := rfl
@[simp] theorem bind_bad (f : α → R β) : (R.bad).bind f = .bad := rfl
@[simp] theorem ofO_some (a : α) : R.ofO (some a) = .ok a := rfl
@[simp] theorem ofO_none : R.ofO (none : Option α) = .bad := rfl
@[simp] theorem noxx_ok (a : α) : nox (R.ok a) = .ok a := rfl
@[simp] theorem bind_ite {p : Prop} [Decidable p] (a b : R α) (f : α → R β) : (if p then a else b).bind f = if p then a.bind f else b.bind f := by split <;> rfl
theorem bind_assoc (a : R α) (f : α → R β) (g : β → R γ) : (a.bind f).bind g = a.bind fun x => (f x).bind g := by cases a <;> rfl
end
/-! ### loops, as words -/
def forS (t : T) (b : Ss) (l : Lv) (xs : List D) (σ : Sd) : R (Fl × Sd) := forGo (fun x σ => (asg t x σ).bind fun σ1 => exs b l σ1) xs σ
def whS (c : E) (b : Ss) (l : Lv) (n : Nat) (σ : Sd) : R (Fl × Sd) := whGo (fun σ => (lent c (ev c l σ) σ).bind fun p => (R.ofO (tru p.1)).bind fun k => .ok (k, p.2)) (fun σ => exs b l σ) n σ
/-- one turn of a comprehension, the block's names told nothing -/
def lcT (elt : E) (t : T) (c : Eo) (l : Lv) (x : D) (σ : Sd) : R (Option D × Sd) := (asg t x σ).bind fun σ1 => (evc c { l with th := .bad } σ1).bind fun q => if q.1 = true then (ev elt { l with th := .bad } q.2).bind fun r => .ok (some r.1, r.2) else .ok (none, q.2)
def lcS (own : List Nat) (elt : E) (t : T) (c : Eo) (l : Lv) (σ0 : Sd) (xs : List D) (σ : Sd) : R (D × Sd) := (nox (lcGo (fun x σ => lcT elt t c l x (wipeD σ own)) xs σ [])).bind fun q => .ok (.lst q.1, back own σ0 q.2)
/-! ### expressions -/
section
variable {l : Lv} {σ : Sd}
@[simp] theorem ev_var (i) : ev (.var i) l σ = (getS σ i).bind fun d => .ok (d, σ) := rfl
@[simp] theorem ev_rv (i) : ev (.rv i) l σ = .bad := rfl
@[simp] theorem ev_cst (d) : ev (.cst d) l σ = .ok (d, σ) := rfl
@[simp] theorem ev_fn (f) : ev (.fn f) l σ = .ok (.fn f, σ) := rfl
@[simp] theorem ev_tup (es) : ev (.tup es) l σ = (evs es l σ).bind fun q => if q.1.length ≤ SZ then .ok (.tup q.1, q.2) else .bad := rfl
@[simp] theorem ev_lst (es) : ev (.lst es) l σ = (evs es l σ).bind fun q => if q.1.length ≤ SZ then .ok (.lst q.1, q.2) else .bad := rfl
@[simp] theorem ev_bin (op a b) : ev (.bin op a b) l σ = (lent a (ev a l σ) σ).bind fun p => (lent b (ev b l p.2) p.2).bind fun q => (rr a p.1 q.2).bind fun x => (R.ofO (bop op x q.1)).bind fun d => .ok (d, q.2) := rfl
@[simp] theorem ev_neg (a) : ev (.neg a) l σ = (ev a l σ).bind fun p => match p.1 with
    | .int i => .ok (.int (-i), p.2)
    | _ => .bad := rfl
@[simp] theorem ev_not (a) : ev (.not a) l σ = (lent a (ev a l σ) σ).bind fun p => (R.ofO (tru p.1)).bind fun k => .ok (.bl (!k), p.2) := rfl
@[simp] theorem ev_and (a b) : ev (.and a b) l σ = (ev a l σ).bind fun p => (R.ofO (tru p.1)).bind fun k => if k = true then ev b l p.2 else .ok p := rfl
@[simp] theorem ev_or (a b) : ev (.or a b) l σ = (ev a l σ).bind fun p => (R.ofO (tru p.1)).bind fun k => if k = true then .ok p else ev b l p.2 := rfl
@[simp] theorem ev_cmp (op a b) : ev (.cmp op a b) l σ = (lent a (ev a l σ) σ).bind fun p => (lent b (ev b l p.2) p.2).bind fun q => (rr a p.1 q.2).bind fun x => (R.ofO (cmpD op x q.1)).bind fun k => .ok (.bl k, q.2) := rfl
@[simp] theorem ev_chain (op op' a b c) : ev (.chain op op' a b c) l σ = (lent a (ev a l σ) σ).bind fun p => (ev b l p.2).bind fun q => (rr a p.1 q.2).bind fun x => (R.ofO (cmpD op x q.1)).bind fun k =>
    if k = true then (lent c (ev c l q.2) q.2).bind fun r => (R.ofO (cmpD op' q.1 r.1)).bind fun k' => .ok (.bl k', r.2) else .ok (.bl false, q.2) := rfl
@[simp] theorem ev_ite (c a b) : ev (.ite c a b) l σ = (lent c (ev c l σ) σ).bind fun p => (R.ofO (tru p.1)).bind fun k => if k = true then ev a l p.2 else ev b l p.2 := rfl
def callS (l : Lv) (f : Nat) (as : Es) (own : List Nat) (σ : Sd) (fd : Fd) : R (D × Sd) := if modesOk own (outsOf fd.ps as) fd.ps as && nodupB (outsOf fd.ps as) then
        (evbs as l σ).bind fun q => (rrs as q.1 q.2).bind fun ds => (l.F f ds).bind fun r => (putOuts (outsOf fd.ps as) r.2 q.2).bind fun σ' => .ok (r.1, σ')
      else .bad
def callO (l : Lv) (f : Nat) (as : Es) (own : List Nat) (σ : Sd) : Option Fd → R (D × Sd)
  | none => .bad
  | some fd => callS l f as own σ fd
@[simp] theorem callO_some (f as own fd) : callO l f as own σ (some fd) = callS l f as own σ fd := rfl
@[simp] theorem ev_call (f as) : ev (.call f as) l σ = callO l f as l.own σ l.tb[f]? := by
  show (match l.tb[f]? with | none => _ | some fd => _) = _
  cases l.tb[f]? <;> rfl
def calS (l : Lv) (as : Es) (σ : Sd) : D → R (D × Sd)
  | .fn f => callO l f as [] σ l.tb[f]?
  | _ => .bad
@[simp] theorem calS_fn (as f) : calS l as σ (.fn f) = callO l f as [] σ l.tb[f]? := rfl
@[simp] theorem ev_cal (i as) : ev (.cal i as) l σ = (getS σ i).bind fun d => calS l as σ d := by
  show ((getS σ i).bind fun d => _) = _
  congr 1
def lvL (l : Lv) (F2 : Fns) : Lv := { l with own := [], F := F2, F2 := none, Hd := fun _ _ => .bad, th := .bad }
def lamS (f : Nat) (b : E) (l : Lv) (σ : Sd) : Option Fns → R (D × Sd)
  | none => .bad
  | some F2 => match ev b (lvL l F2) σ with
      | .ok q => (l.Hd f (.ok q.1)).bind fun d => .ok (d, σ)
      | .exc c => (l.Hd f (.exc c)).bind fun d => .ok (d, σ)
      | .bad => .bad
@[simp] theorem evx_lam (f b) : ev (.lam f b) l σ = lamS f b l σ l.F2 := by
  show (match l.F2 with | none => _ | some F2 => _) = _
  cases l.F2 <;> rfl
@[simp] theorem ev_bi (b as) : ev (.bi b as) l σ = (evbs as l σ).bind fun q => (rrs as q.1 q.2).bind fun ds => (R.ofO (biD b ds)).bind fun d => .ok (d, q.2) := rfl
@[simp] theorem ev_mt (m a as) : ev (.mt m a as) l σ = (ev a l σ).bind fun p => if isStrD p.1 then (evbs as l p.2).bind fun q => (rrs as q.1 q.2).bind fun ds => (R.ofO (mtD m p.1 ds)).bind fun d => .ok (d, q.2) else .bad := rfl
@[simp] theorem ev_mm (m i as) : ev (.mm m i as) l σ = (getS σ i).bind fun a0 => if isLstD a0 then (evs as l σ).bind fun q => (getS q.2 i).bind fun a => (R.ofO (mmD m a q.1)).bind fun r => .ok (r.1, q.2.set i (some r.2)) else .bad := rfl
@[simp] theorem ev_sub (a b) : ev (.sub a b) l σ = (lent a (ev a l σ) σ).bind fun p => (ev b l p.2).bind fun q => (rr a p.1 q.2).bind fun x => (R.ofO (subD x q.1)).bind fun d => .ok (d, q.2) := rfl
def slD (x : D) (lo hi : Option Int) (σ : Sd) : R (D × Sd) := match x with
    | .tup xs => .ok (.tup (cut xs lo hi), σ)
    | .lst xs => .ok (.lst (cut xs lo hi), σ)
    | _ => .bad
@[simp] theorem slD_tup (xs lo hi) : slD (.tup xs) lo hi σ = .ok (.tup (cut xs lo hi), σ) := rfl
@[simp] theorem slD_lst (xs lo hi) : slD (.lst xs) lo hi σ = .ok (.lst (cut xs lo hi), σ) := rfl
@[simp] theorem ev_sl (a lo hi) : ev (.sl a lo hi) l σ = (lent a (ev a l σ) σ).bind fun p => (evo lo l p.2).bind fun q => (evo hi l q.2).bind fun r => (rr a p.1 r.2).bind fun x => slD x q.1 r.1 r.2 := rfl
@[simp] theorem ev_rev (a) : ev (.rev a) l σ = (lent a (ev a l σ) σ).bind fun p => match p.1 with
    | .tup xs => .ok (.tup xs.reverse, p.2)
    | .lst xs => .ok (.lst xs.reverse, p.2)
    | _ => .bad := rfl
@[simp] theorem evx_lc (own elt t it c) : ev (.lc own elt t it c) l σ = (evi it l σ).bind fun p => if l.hld.isSome && !p.1.all isTupD then .bad else lcS own elt t c l σ p.1 p.2 := rfl
@[simp] theorem ev_dic0 : ev (.dic .nil .nil) l σ = .ok (.dic [], σ) := rfl
@[simp] theorem evs_nil : evs .nil l σ = .ok ([], σ) := rfl
@[simp] theorem evs_cons (e es) : evs (.cons e es) l σ = (ev e l σ).bind fun p => (evs es l p.2).bind fun q => .ok (p.1 :: q.1, q.2) := rfl
@[simp] theorem evbs_nil : evbs .nil l σ = .ok ([], σ) := rfl
@[simp] theorem evbs_cons (e es) : evbs (.cons e es) l σ = (lent e (ev e l σ) σ).bind fun p => (evbs es l p.2).bind fun q => .ok (p.1 :: q.1, q.2) := rfl
@[simp] theorem evo_none : evo .none l σ = .ok (none, σ) := rfl
@[simp] theorem evo_some (e) : evo (.some e) l σ = (ev e l σ).bind fun p => match p.1 with
    | .int i => .ok (some i, p.2)
    | _ => .bad := rfl
@[simp] theorem evc_none : evc .none l σ = .ok (true, σ) := rfl
@[simp] theorem evc_some (e) : evc (.some e) l σ = (lent e (ev e l σ) σ).bind fun p => (R.ofO (tru p.1)).bind fun k => .ok (k, p.2) := rfl
@[simp] theorem evi_val (e) : evi (.val e) l σ = (ev e l σ).bind fun p => (R.ofO (itemsOf p.1)).bind fun xs => .ok (xs, p.2) := rfl
@[simp] theorem evi_lst (e) : evi (.lst e) l σ = (ev e l σ).bind fun p => (R.ofO (lstsOf p.1)).bind fun xs => .ok (xs, p.2) := rfl
@[simp] theorem evi_rng1 (e) : evi (.rng1 e) l σ = (ev e l σ).bind fun p => match p.1 with
    | .int j => if rngOk j then .ok (rangeL 0 j, p.2) else .bad
    | _ => .bad := rfl
@[simp] theorem evi_rng2 (a b) : evi (.rng2 a b) l σ = (ev a l σ).bind fun p => (ev b l p.2).bind fun q => match p.1, q.1 with
    | .int i, .int j => if rngOk i && rngOk j then .ok (rangeL i j, q.2) else .bad
    | _, _ => .bad := rfl
@[simp] theorem evi_enum (e) : evi (.enum e) l σ = (ev e l σ).bind fun p => (R.ofO (itemsOf p.1)).bind fun xs => .ok (enumL xs, p.2) := rfl
@[simp] theorem evi_zip (a b) : evi (.zip a b) l σ = (ev a l σ).bind fun p => (ev b l p.2).bind fun q => (R.ofO (zipsOf p.1 q.1)).bind fun xs => .ok (zipL xs.1 xs.2, q.2) := rfl
/-! ### lent names -/
@[simp] theorem lent_rv (i r) : lent (.rv i) r σ = (getS σ i).bind fun d => .ok (d, σ) := rfl
theorem lent_of {e : E} (h : isRv e = false) (r) : lent e r σ = r := by cases e <;> first | rfl | cases h
theorem rr_of {e : E} (h : isRv e = false) (d) : rr e d σ = .ok d := by cases e <;> first | rfl | cases h
@[simp] theorem rr_rv (i d) : rr (.rv i) d σ = getS σ i := rfl
@[simp] theorem lent_var {i} (r) : lent (.var i) r σ = r := rfl
@[simp] theorem rr_var {i} (d') : rr (.var i) d' σ = .ok d' := rfl
@[simp] theorem lent_cst {d} (r) : lent (.cst d) r σ = r := rfl
@[simp] theorem rr_cst {d} (d') : rr (.cst d) d' σ = .ok d' := rfl
@[simp] theorem lent_fn {f} (r) : lent (.fn f) r σ = r := rfl
@[simp] theorem rr_fn {f} (d') : rr (.fn f) d' σ = .ok d' := rfl
@[simp] theorem lent_tup {es} (r) : lent (.tup es) r σ = r := rfl
@[simp] theorem rr_tup {es} (d') : rr (.tup es) d' σ = .ok d' := rfl
@[simp] theorem lent_lst {es} (r) : lent (.lst es) r σ = r := rfl
@[simp] theorem rr_lst {es} (d') : rr (.lst es) d' σ = .ok d' := rfl
@[simp] theorem lent_bin {op a b} (r) : lent (.bin op a b) r σ = r := rfl
@[simp] theorem rr_bin {op a b} (d') : rr (.bin op a b) d' σ = .ok d' := rfl
@[simp] theorem lent_neg {a} (r) : lent (.neg a) r σ = r := rfl
@[simp] theorem rr_neg {a} (d') : rr (.neg a) d' σ = .ok d' := rfl
@[simp] theorem lent_not {a} (r) : lent (.not a) r σ = r := rfl
@[simp] theorem rr_not {a} (d') : rr (.not a) d' σ = .ok d' := rfl
@[simp] theorem lent_and {a b} (r) : lent (.and a b) r σ = r := rfl
@[simp] theorem rr_and {a b} (d') : rr (.and a b) d' σ = .ok d' := rfl
@[simp] theorem lent_or {a b} (r) : lent (.or a b) r σ = r := rfl
@[simp] theorem rr_or {a b} (d') : rr (.or a b) d' σ = .ok d' := rfl
@[simp] theorem lent_cmp {op a b} (r) : lent (.cmp op a b) r σ = r := rfl
@[simp] theorem rr_cmp {op a b} (d') : rr (.cmp op a b) d' σ = .ok d' := rfl
@[simp] theorem lent_chain {op op' a b c} (r) : lent (.chain op op' a b c) r σ = r := rfl
@[simp] theorem rr_chain {op op' a b c} (d') : rr (.chain op op' a b c) d' σ = .ok d' := rfl
@[simp] theorem lent_ite {c a b} (r) : lent (.ite c a b) r σ = r := rfl
@[simp] theorem rr_ite {c a b} (d') : rr (.ite c a b) d' σ = .ok d' := rfl
@[simp] theorem lent_call {f as} (r) : lent (.call f as) r σ = r := rfl
@[simp] theorem rr_call {f as} (d') : rr (.call f as) d' σ = .ok d' := rfl
@[simp] theorem lent_cal {i as} (r) : lent (.cal i as) r σ = r := rfl
@[simp] theorem rr_cal {i as} (d') : rr (.cal i as) d' σ = .ok d' := rfl
@[simp] theorem lent_lam {f b} (r) : lent (.lam f b) r σ = r := rfl
@[simp] theorem rr_lam {f b} (d') : rr (.lam f b) d' σ = .ok d' := rfl
@[simp] theorem lent_bi {bb as} (r) : lent (.bi bb as) r σ = r := rfl
@[simp] theorem rr_bi {bb as} (d') : rr (.bi bb as) d' σ = .ok d' := rfl
@[simp] theorem lent_mt {m a as} (r) : lent (.mt m a as) r σ = r := rfl
@[simp] theorem rr_mt {m a as} (d') : rr (.mt m a as) d' σ = .ok d' := rfl
@[simp] theorem lent_mm {m i as} (r) : lent (.mm m i as) r σ = r := rfl
@[simp] theorem rr_mm {m i as} (d') : rr (.mm m i as) d' σ = .ok d' := rfl
@[simp] theorem lent_sub {a b} (r) : lent (.sub a b) r σ = r := rfl
@[simp] theorem rr_sub {a b} (d') : rr (.sub a b) d' σ = .ok d' := rfl
@[simp] theorem lent_sl {a lo hi} (r) : lent (.sl a lo hi) r σ = r := rfl
@[simp] theorem rr_sl {a lo hi} (d') : rr (.sl a lo hi) d' σ = .ok d' := rfl
@[simp] theorem lent_rev {a} (r) : lent (.rev a) r σ = r := rfl
@[simp] theorem rr_rev {a} (d') : rr (.rev a) d' σ = .ok d' := rfl
@[simp] theorem lent_lc {own elt t it c} (r) : lent (.lc own elt t it c) r σ = r := rfl
@[simp] theorem rr_lc {own elt t it c} (d') : rr (.lc own elt t it c) d' σ = .ok d' := rfl
@[simp] theorem lent_dic {ks vs} (r) : lent (.dic ks vs) r σ = r := rfl
@[simp] theorem rr_dic {ks vs} (d') : rr (.dic ks vs) d' σ = .ok d' := rfl
@[simp] theorem lent_isx {i f} (r) : lent (.isx i f) r σ = r := rfl
@[simp] theorem rr_isx {i f} (d') : rr (.isx i f) d' σ = .ok d' := rfl
@[simp] theorem rrs_nil : rrs .nil [] σ = .ok [] := rfl
@[simp] theorem rrs_cons (e es d ds) : rrs (.cons e es) (d :: ds) σ = (rr e d σ).bind fun x => (rrs es ds σ).bind fun xs => .ok (x :: xs) := rfl
/-! ### the parameters' ways -/
def bOk (ms : List Nat) (e : E) : Bool := match e with
  | .rv i => !ms.contains i
  | _ => true
def mOk (own : List Nat) (e : E) : Bool := match e with
  | .rv i => own.contains i
  | _ => false
@[simp] theorem modesOk_nil (own ms) : modesOk own ms [] .nil = true := rfl
@[simp] theorem modesOk_s (own ms ps e es) : modesOk own ms (.s :: ps) (.cons e es) = (!isRv e && modesOk own ms ps es) := rfl
@[simp] theorem modesOk_b (own ms ps e es) : modesOk own ms (.b :: ps) (.cons e es) = (bOk ms e && modesOk own ms ps es) := rfl
@[simp] theorem modesOk_m (own ms ps e es) : modesOk own ms (.m :: ps) (.cons e es) = (mOk own e && modesOk own ms ps es) := rfl
@[simp] theorem bOk_rv (ms i) : bOk ms (.rv i) = !ms.contains i := rfl
@[simp] theorem mOk_rv (own i) : mOk own (.rv i) = own.contains i := rfl
@[simp] theorem isRv_rv (i) : isRv (.rv i) = true := rfl
@[simp] theorem nodupB_nil : nodupB [] = true := rfl
@[simp] theorem nodupB_cons (x r) : nodupB (x :: r) = (!r.contains x && nodupB r) := rfl
@[simp] theorem isRv_var {i} : isRv (.var i) = false := rfl
@[simp] theorem bOk_var {ms : List Nat} {i} : bOk ms (.var i) = true := rfl
@[simp] theorem isRv_cst {d} : isRv (.cst d) = false := rfl
@[simp] theorem bOk_cst {ms : List Nat} {d} : bOk ms (.cst d) = true := rfl
@[simp] theorem isRv_fn {f} : isRv (.fn f) = false := rfl
@[simp] theorem bOk_fn {ms : List Nat} {f} : bOk ms (.fn f) = true := rfl
@[simp] theorem isRv_tup {es} : isRv (.tup es) = false := rfl
@[simp] theorem bOk_tup {ms : List Nat} {es} : bOk ms (.tup es) = true := rfl
@[simp] theorem isRv_lst {es} : isRv (.lst es) = false := rfl
@[simp] theorem bOk_lst {ms : List Nat} {es} : bOk ms (.lst es) = true := rfl
@[simp] theorem isRv_bin {op a b} : isRv (.bin op a b) = false := rfl
@[simp] theorem bOk_bin {ms : List Nat} {op a b} : bOk ms (.bin op a b) = true := rfl
@[simp] theorem isRv_neg {a} : isRv (.neg a) = false := rfl
@[simp] theorem bOk_neg {ms : List Nat} {a} : bOk ms (.neg a) = true := rfl
@[simp] theorem isRv_not {a} : isRv (.not a) = false := rfl
@[simp] theorem bOk_not {ms : List Nat} {a} : bOk ms (.not a) = true := rfl
@[simp] theorem isRv_and {a b} : isRv (.and a b) = false := rfl
@[simp] theorem bOk_and {ms : List Nat} {a b} : bOk ms (.and a b) = true := rfl
@[simp] theorem isRv_or {a b} : isRv (.or a b) = false := rfl
@[simp] theorem bOk_or {ms : List Nat} {a b} : bOk ms (.or a b) = true := rfl
@[simp] theorem isRv_cmp {op a b} : isRv (.cmp op a b) = false := rfl
@[simp] theorem bOk_cmp {ms : List Nat} {op a b} : bOk ms (.cmp op a b) = true := rfl
@[simp] theorem isRv_chain {op op' a b c} : isRv (.chain op op' a b c) = false := rfl
@[simp] theorem bOk_chain {ms : List Nat} {op op' a b c} : bOk ms (.chain op op' a b c) = true := rfl
@[simp] theorem isRv_ite {c a b} : isRv (.ite c a b) = false := rfl
@[simp] theorem bOk_ite {ms : List Nat} {c a b} : bOk ms (.ite c a b) = true := rfl
@[simp] theorem isRv_call {f as} : isRv (.call f as) = false := rfl
@[simp] theorem bOk_call {ms : List Nat} {f as} : bOk ms (.call f as) = true := rfl
@[simp] theorem isRv_cal {i as} : isRv (.cal i as) = false := rfl
@[simp] theorem bOk_cal {ms : List Nat} {i as} : bOk ms (.cal i as) = true := rfl
@[simp] theorem isRv_lam {f b} : isRv (.lam f b) = false := rfl
@[simp] theorem bOk_lam {ms : List Nat} {f b} : bOk ms (.lam f b) = true := rfl
@[simp] theorem isRv_bi {bb : Bi} {as} : isRv (.bi bb as) = false := rfl
@[simp] theorem bOk_bi {ms : List Nat} {bb as} : bOk ms (.bi bb as) = true := rfl
@[simp] theorem isRv_mt {m a as} : isRv (.mt m a as) = false := rfl
@[simp] theorem bOk_mt {ms : List Nat} {m a as} : bOk ms (.mt m a as) = true := rfl
@[simp] theorem isRv_mm {m i as} : isRv (.mm m i as) = false := rfl
@[simp] theorem bOk_mm {ms : List Nat} {m i as} : bOk ms (.mm m i as) = true := rfl
@[simp] theorem isRv_sub {a b} : isRv (.sub a b) = false := rfl
@[simp] theorem bOk_sub {ms : List Nat} {a b} : bOk ms (.sub a b) = true := rfl
@[simp] theorem isRv_sl {a lo hi} : isRv (.sl a lo hi) = false := rfl
@[simp] theorem bOk_sl {ms : List Nat} {a lo hi} : bOk ms (.sl a lo hi) = true := rfl
@[simp] theorem isRv_rev {a} : isRv (.rev a) = false := rfl
@[simp] theorem bOk_rev {ms : List Nat} {a} : bOk ms (.rev a) = true := rfl
@[simp] theorem isRv_lc {own elt t it c} : isRv (.lc own elt t it c) = false := rfl
@[simp] theorem bOk_lc {ms : List Nat} {own elt t it c} : bOk ms (.lc own elt t it c) = true := rfl
@[simp] theorem isRv_dic {ks vs} : isRv (.dic ks vs) = false := rfl
@[simp] theorem bOk_dic {ms : List Nat} {ks vs} : bOk ms (.dic ks vs) = true := rfl
@[simp] theorem isRv_isx {i f} : isRv (.isx i f) = false := rfl
@[simp] theorem bOk_isx {ms : List Nat} {i f} : bOk ms (.isx i f) = true := rfl
@[simp] theorem mSlots_nil (i : Nat) : mSlots [] i = [] := rfl
@[simp] theorem mSlots_s (ps : List Md) (i : Nat) : mSlots (.s :: ps) i = mSlots ps (i + 1) := rfl
@[simp] theorem mSlots_b (ps : List Md) (i : Nat) : mSlots (.b :: ps) i = mSlots ps (i + 1) := rfl
@[simp] theorem mSlots_m (ps : List Md) (i : Nat) : mSlots (.m :: ps) i = i :: mSlots ps (i + 1) := rfl
@[simp] theorem outsOf_nil : outsOf [] .nil = [] := rfl
@[simp] theorem outsOf_s (ps e es) : outsOf (.s :: ps) (.cons e es) = outsOf ps es := by cases e <;> rfl
@[simp] theorem outsOf_b (ps e es) : outsOf (.b :: ps) (.cons e es) = outsOf ps es := by cases e <;> rfl
@[simp] theorem outsOf_m (ps i es) : outsOf (.m :: ps) (.cons (.rv i) es) = i :: outsOf ps es := rfl
@[simp] theorem putOuts_nil (σ : Sd) : putOuts [] [] σ = .ok σ := rfl
@[simp] theorem putOuts_cons (i is d ds) (σ : Sd) : putOuts (i :: is) (d :: ds) σ = putOuts is ds (σ.set i (some d)) := rfl
/-! ### statements -/
@[simp] theorem exs_nil : exs .nil l σ = .ok (.nx, σ) := rfl
def flS (ss : Ss) (l : Lv) : Fl × Sd → R (Fl × Sd)
  | (.nx, σ) => exs ss l σ
  | (f, σ) => .ok (f, σ)
@[simp] theorem flS_nx (ss) : flS ss l (.nx, σ) = exs ss l σ := rfl
@[simp] theorem flS_ct (ss) : flS ss l (.ct, σ) = .ok (.ct, σ) := rfl
@[simp] theorem flS_br (ss) : flS ss l (.br, σ) = .ok (.br, σ) := rfl
@[simp] theorem flS_rt (ss d) : flS ss l (.rt d, σ) = .ok (.rt d, σ) := rfl
@[simp] theorem exs_cons (s ss) : exs (.cons s ss) l σ = (ex s l σ).bind (flS ss l) := by
  show ((ex s l σ).bind fun q => _) = _
  congr 1
  funext q
  obtain ⟨f, σ'⟩ := q
  cases f <;> rfl
@[simp] theorem ex_expr (e) : ex (.expr e) l σ = (ev e l σ).bind fun p => .ok (.nx, p.2) := rfl
@[simp] theorem ex_asg (t e) : ex (.asg t e) l σ = (ev e l σ).bind fun p => (asg t p.1 p.2).bind fun σ' => .ok (.nx, σ') := rfl
@[simp] theorem ex_asgr (i e) : ex (.asgr i e) l σ = if freshE (frOf l.tb) e then (ev e l σ).bind fun p => if isContainer p.1 then .ok (.nx, p.2.set i (some p.1)) else .bad else .bad := rfl
@[simp] theorem ex_par (is es) : ex (.par is es) l σ = if parOk (frOf l.tb) is es then (evs es l σ).bind fun p => (setAll is p.1 p.2).bind fun σ' => .ok (.nx, σ')
    else .bad := rfl
@[simp] theorem ex_seti (i k e) : ex (.seti i k e) l σ = (ev e l σ).bind fun p => (getS p.2 i).bind fun _ => (ev k l p.2).bind fun q => (getS q.2 i).bind fun a => (R.ofO (setD a q.1 p.1)).bind fun b => .ok (.nx, q.2.set i (some b)) := rfl
@[simp] theorem ex_ifs (c a b) : ex (.ifs c a b) l σ = (lent c (ev c l σ) σ).bind fun p => (R.ofO (tru p.1)).bind fun k => if k = true then exs a l p.2 else exs b l p.2 := rfl
@[simp] theorem ex_for (t it b) : ex (.for t it b) l σ = (evi it l σ).bind fun p => forS t b l p.1 p.2 := rfl
@[simp] theorem ex_while (c b) : ex (.while c b) l σ = whS c b l WF σ := rfl
@[simp] theorem ex_ret (e) : ex (.ret e) l σ = (ev e l σ).bind fun p => if l.fr && !freshE (frOf l.tb) e && isContainer p.1 then .bad else .ok (.rt p.1, p.2) := rfl
@[simp] theorem ex_retr (i) : ex (.retr i) l σ = (getS σ i).bind fun d => .ok (.rt d, σ) := rfl
@[simp] theorem ex_retN : ex .retN l σ = .ok (.rt .non, σ) := rfl
@[simp] theorem ex_raise (c) : ex (.raise c) l σ = .exc c := rfl
@[simp] theorem ex_pass : ex .pass l σ = .ok (.nx, σ) := rfl
@[simp] theorem ex_cont : ex .cont l σ = .ok (.ct, σ) := rfl
@[simp] theorem ex_brk : ex .brk l σ = .ok (.br, σ) := rfl
@[simp] theorem ex_acts : ex .acts l σ = l.th.bind fun _ => .ok (.nx, σ) := rfl
end
/-! ### slots -/
@[simp] theorem getS_zero (d : D) (σ : Sd) : getS (some d :: σ) 0 = .ok d := rfl
@[simp] theorem getS_succ (x : Option D) (σ : Sd) (i : Nat) : getS (x :: σ) (i + 1) = getS σ i := rfl
@[simp] theorem asg_var (i : Nat) (d : D) (σ : Sd) : asg (.var i) d σ = .ok (σ.set i (some d)) := rfl
@[simp] theorem asg_tup (ts : List T) (xs : List D) (σ : Sd) : asg (.tup ts) (.tup xs) σ = if xs.length = ts.length then asgs ts xs σ else .bad := rfl
@[simp] theorem asg_lst (ts : List T) (xs : List D) (σ : Sd) : asg (.tup ts) (.lst xs) σ = if xs.length = ts.length then asgs ts xs σ else .bad := rfl
@[simp] theorem asgs_nil (σ : Sd) : asgs [] [] σ = .ok σ := rfl
@[simp] theorem asgs_cons (t : T) (ts : List T) (d : D) (ds : List D) (σ : Sd) : asgs (t :: ts) (d :: ds) σ = (asg t d σ).bind fun σ1 => asgs ts ds σ1 := rfl
/-! ### what a def leans on -/
def LV (tb : List Fd) (sub : Nat → Nat → Bool) (n : Nat) (fd : Fd) : Lv := ⟨tb, fd.own, sub, Fs tb sub n, (Ts tb sub n).2.2, runHd tb sub, .bad, none, fd.fresh⟩
section
variable {tb : List Fd} {sub : Nat → Nat → Bool} {n : Nat} {fd : Fd}
@[simp] theorem LV_tb : (LV tb sub n fd).tb = tb := rfl
@[simp] theorem LV_own : (LV tb sub n fd).own = fd.own := rfl
@[simp] theorem LV_F : (LV tb sub n fd).F = Fs tb sub n := rfl
@[simp] theorem LV_F2 : (LV tb sub (n + 2) fd).F2 = some (Fs tb sub n) := rfl
@[simp] theorem LV_Hd : (LV tb sub n fd).Hd = runHd tb sub := rfl
@[simp] theorem LV_th : (LV tb sub n fd).th = .bad := rfl
@[simp] theorem LV_hld : (LV tb sub n fd).hld = none := rfl
@[simp] theorem LV_fr : (LV tb sub n fd).fr = fd.fresh := rfl
@[simp] theorem LV_sub : (LV tb sub n fd).sub = sub := rfl
@[simp] theorem LV_noth : ({ LV tb sub n fd with th := .bad } : Lv) = LV tb sub n fd := rfl
/-- a def, called -/
theorem call_eq {f : Nat} {as : List D} (h : tb[f]? = some fd) (hl : as.length = fd.ps.length) : Fs tb sub (n + 1) f as = finish fd (exs fd.body (LV tb sub n fd) (start fd as)) := by
  show runFd tb sub (Ts tb sub n).1 (Ts tb sub n).2.2 (runHd tb sub) .bad f as = _
  unfold runFd
  rw [h]
  exact if_pos hl
@[simp] theorem finish_rt (d : D) (σ : Sd) : finish fd (.ok (.rt d, σ)) = (getAll σ (mSlots fd.ps 0)).bind fun ds => .ok (d, ds) := rfl
@[simp] theorem finish_nx (σ : Sd) : finish fd (.ok (.nx, σ)) = (getAll σ (mSlots fd.ps 0)).bind fun ds => .ok (.non, ds) := rfl
@[simp] theorem finish_exc (c : Nat) : finish fd (.exc c) = .exc c := rfl
@[simp] theorem getAll_nil (σ : Sd) : getAll σ [] = .ok [] := rfl
@[simp] theorem getAll_cons (σ : Sd) (i : Nat) (is : List Nat) : getAll σ (i :: is) = (getS σ i).bind fun d => (getAll σ is).bind fun ds => .ok (d :: ds) := rfl
@[simp] theorem finish_ite {p : Prop} [Decidable p] (a b : R (Fl × Sd)) : finish fd (if p then a else b) = if p then finish fd a else finish fd b := by split <;> rfl
end

/-! ### operators -/
section
variable {i j : Int} {a b : Bool} {x y : Str} {xs ys : List D} {d : D}
@[simp] theorem bop_add : bop .add (.int i) (.int j) = some (.int (i + j)) := rfl
@[simp] theorem bop_sub : bop .sub (.int i) (.int j) = some (.int (i - j)) := rfl
theorem bop_mul (h : (-(2 ^ 64) < i ∧ i < 2 ^ 64) ∨ (-(2 ^ 64) < j ∧ j < 2 ^ 64)) : bop .mul (.int i) (.int j) = some (.int (i * j)) := by
  show (if (-(2 ^ 64) < i ∧ i < 2 ^ 64) ∨ (-(2 ^ 64) < j ∧ j < 2 ^ 64) then some (i * j) else none).map D.int = _
  rw [if_pos h]
  rfl
theorem bop_fdiv (h : 0 < j) (h2 : j < 1073741824) : bop .fdiv (.int i) (.int j) = some (.int (i / j)) := by
  show (if 0 < j ∧ j < 1073741824 then some (i / j) else none).map D.int = _
  rw [if_pos ⟨h, h2⟩]
  rfl
theorem bop_mod (h : 0 < j) : bop .mod (.int i) (.int j) = some (.int (i % j)) := by
  show (if 0 < j then some (i % j) else none).map D.int = _
  rw [if_pos h]
  rfl
@[simp] theorem SZ_num : SZ = 16777216 := rfl
@[simp] theorem bop_addS (h : x.length + y.length ≤ SZ) : bop .add (.str x) (.str y) = some (.str (x ++ y)) := if_pos h
@[simp] theorem tru_non : tru .non = some false := rfl
@[simp] theorem tru_bl : tru (.bl a) = some a := rfl
@[simp] theorem tru_int : tru (.int i) = some (i != 0) := rfl
@[simp] theorem tru_lst : tru (.lst xs) = some (!xs.isEmpty) := rfl
@[simp] theorem tru_tup : tru (.tup xs) = some (!xs.isEmpty) := rfl
@[simp] theorem cmpD_lt : cmpD .lt (.int i) (.int j) = some (decide (i < j)) := rfl
@[simp] theorem cmpD_le : cmpD .le (.int i) (.int j) = some (decide (i ≤ j)) := rfl
@[simp] theorem cmpD_gt : cmpD .gt (.int i) (.int j) = some (decide (j < i)) := rfl
@[simp] theorem cmpD_ge : cmpD .ge (.int i) (.int j) = some (decide (j ≤ i)) := rfl
@[simp] theorem cmpD_eq_int : cmpD .eq (.int i) (.int j) = some (decide (i = j)) := by
  show some (i == j) = _
  rfl
@[simp] theorem cmpD_ne_int : cmpD .ne (.int i) (.int j) = some (!decide (i = j)) := rfl
@[simp] theorem cmpD_eq_bl : cmpD .eq (.bl a) (.bl b) = some (a == b) := rfl
@[simp] theorem cmpD_ne_bl : cmpD .ne (.bl a) (.bl b) = some (!(a == b)) := rfl
@[simp] theorem cmpD_eq_str : cmpD .eq (.str x) (.str y) = some (x == y) := rfl
@[simp] theorem cmpD_ne_str : cmpD .ne (.str x) (.str y) = some (!(x == y)) := rfl
@[simp] theorem cmpD_is_non : cmpD .is .non .non = some true := rfl
@[simp] theorem cmpD_is_int : cmpD .is (.int i) .non = some false := rfl
@[simp] theorem cmpD_is_bl : cmpD .is (.bl a) .non = some false := rfl
@[simp] theorem cmpD_is_str : cmpD .is (.str x) .non = some false := rfl
@[simp] theorem cmpD_is_tup : cmpD .is (.tup xs) .non = some false := rfl
@[simp] theorem cmpD_is_lst : cmpD .is (.lst xs) .non = some false := rfl
@[simp] theorem cmpD_isn_non : cmpD .isn .non .non = some false := rfl
@[simp] theorem cmpD_isn_int : cmpD .isn (.int i) .non = some true := rfl
@[simp] theorem cmpD_isn_tup : cmpD .isn (.tup xs) .non = some true := rfl
@[simp] theorem cmpD_isn_lst : cmpD .isn (.lst xs) .non = some true := rfl
@[simp] theorem biD_lenT : biD .len [.tup xs] = some (.int xs.length) := rfl
@[simp] theorem biD_lenL : biD .len [.lst xs] = some (.int xs.length) := rfl
@[simp] theorem biD_int : biD .int [.int i] = some (.int i) := rfl
@[simp] theorem biD_intb : biD .int [.bl a] = some (.int (if a then 1 else 0)) := rfl
@[simp] theorem biD_listT : biD .list [.tup xs] = some (.lst xs) := rfl
@[simp] theorem biD_listL : biD .list [.lst xs] = some (.lst xs) := rfl
@[simp] theorem biD_listF : biD .list [.frz xs] = some (.lst xs) := rfl
@[simp] theorem biD_tupleT : biD .tuple [.tup xs] = some (.tup xs) := rfl
@[simp] theorem biD_tupleL : biD .tuple [.lst xs] = some (.tup xs) := rfl
@[simp] theorem biD_abs : biD .abs [.int i] = some (.int (if i < 0 then -i else i)) := rfl
@[simp] theorem biD_min2 : biD .min2 [.int i, .int j] = some (.int (if j < i then j else i)) := rfl
@[simp] theorem biD_max2 : biD .max2 [.int i, .int j] = some (.int (if j > i then j else i)) := rfl
theorem bls_map {α : Type} (f : α → Bool) : ∀ l : List α, bls (l.map fun x => D.bl (f x)) = some (l.map f)
  | [] => rfl
  | x :: l => by show (bls (l.map _)).map _ = _; rw [bls_map f l]; rfl
theorem dints_map {α : Type} (f : α → Int) : ∀ l : List α, dints (l.map fun x => D.int (f x)) = some (l.map f)
  | [] => rfl
  | x :: l => by show (dints (l.map _)).map _ = _; rw [dints_map f l]; rfl
@[simp] theorem biD_all (bs : List Bool) : biD .all [.lst (bs.map D.bl)] = some (.bl (bs.all id)) := by
  show (bls (bs.map D.bl)).map _ = _
  rw [show bs.map D.bl = bs.map fun b => D.bl (id b) from rfl, bls_map]
  simp
@[simp] theorem biD_any (bs : List Bool) : biD .any [.lst (bs.map D.bl)] = some (.bl (bs.any id)) := by
  show (bls (bs.map D.bl)).map _ = _
  rw [show bs.map D.bl = bs.map fun b => D.bl (id b) from rfl, bls_map]
  simp
@[simp] theorem isInt_int : biD .isInt [.int i] = some (.bl true) := rfl
@[simp] theorem isInt_bl : biD .isInt [.bl a] = some (.bl true) := rfl
@[simp] theorem isInt_non : biD .isInt [.non] = some (.bl false) := rfl
@[simp] theorem isInt_str : biD .isInt [.str x] = some (.bl false) := rfl
@[simp] theorem isInt_tup : biD .isInt [.tup xs] = some (.bl false) := rfl
@[simp] theorem isInt_lst : biD .isInt [.lst xs] = some (.bl false) := rfl
@[simp] theorem isBool_int : biD .isBool [.int i] = some (.bl false) := rfl
@[simp] theorem isBool_bl : biD .isBool [.bl a] = some (.bl true) := rfl
@[simp] theorem isBool_non : biD .isBool [.non] = some (.bl false) := rfl
@[simp] theorem isBool_str : biD .isBool [.str x] = some (.bl false) := rfl
@[simp] theorem isBool_tup : biD .isBool [.tup xs] = some (.bl false) := rfl
@[simp] theorem isBool_lst : biD .isBool [.lst xs] = some (.bl false) := rfl
@[simp] theorem isStr_int : biD .isStr [.int i] = some (.bl false) := rfl
@[simp] theorem isStr_bl : biD .isStr [.bl a] = some (.bl false) := rfl
@[simp] theorem isStr_non : biD .isStr [.non] = some (.bl false) := rfl
@[simp] theorem isStr_str : biD .isStr [.str x] = some (.bl true) := rfl
@[simp] theorem isStr_tup : biD .isStr [.tup xs] = some (.bl false) := rfl
@[simp] theorem isStr_lst : biD .isStr [.lst xs] = some (.bl false) := rfl
@[simp] theorem isTuple_int : biD .isTuple [.int i] = some (.bl false) := rfl
@[simp] theorem isTuple_bl : biD .isTuple [.bl a] = some (.bl false) := rfl
@[simp] theorem isTuple_non : biD .isTuple [.non] = some (.bl false) := rfl
@[simp] theorem isTuple_str : biD .isTuple [.str x] = some (.bl false) := rfl
@[simp] theorem isTuple_tup : biD .isTuple [.tup xs] = some (.bl true) := rfl
@[simp] theorem isTuple_lst : biD .isTuple [.lst xs] = some (.bl false) := rfl
@[simp] theorem isList_int : biD .isList [.int i] = some (.bl false) := rfl
@[simp] theorem isList_bl : biD .isList [.bl a] = some (.bl false) := rfl
@[simp] theorem isList_non : biD .isList [.non] = some (.bl false) := rfl
@[simp] theorem isList_str : biD .isList [.str x] = some (.bl false) := rfl
@[simp] theorem isList_tup : biD .isList [.tup xs] = some (.bl false) := rfl
@[simp] theorem isList_lst : biD .isList [.lst xs] = some (.bl true) := rfl
theorem subD_tup {k : Nat} (h : xs[k]? = some d) : subD (.tup xs) (.int k) = some d := by
  have hk : k < xs.length := (List.getElem?_eq_some_iff.mp h).1
  show (ixn xs.length k).bind _ = _
  unfold ixn
  rw [if_pos (by omega), if_pos (by omega)]
  simpa using h
theorem subD_lst {k : Nat} (h : xs[k]? = some d) : subD (.lst xs) (.int k) = some d := by
  have hk : k < xs.length := (List.getElem?_eq_some_iff.mp h).1
  show (ixn xs.length k).bind _ = _
  unfold ixn
  rw [if_pos (by omega), if_pos (by omega)]
  simpa using h
@[simp] theorem subD_t0 : subD (.tup (d :: xs)) (.int 0) = some d := subD_tup (k := 0) rfl
@[simp] theorem subD_l0 : subD (.lst (d :: xs)) (.int 0) = some d := subD_lst (k := 0) rfl
variable {d1 d2 d3 d4 d5 : D}
@[simp] theorem subD_t1 : subD (.tup (d :: d1 :: xs)) (.int 1) = some d1 := subD_tup (k := 1) rfl
@[simp] theorem subD_l1 : subD (.lst (d :: d1 :: xs)) (.int 1) = some d1 := subD_lst (k := 1) rfl
@[simp] theorem subD_t2 : subD (.tup (d :: d1 :: d2 :: xs)) (.int 2) = some d2 := subD_tup (k := 2) rfl
@[simp] theorem subD_l2 : subD (.lst (d :: d1 :: d2 :: xs)) (.int 2) = some d2 := subD_lst (k := 2) rfl
@[simp] theorem subD_t3 : subD (.tup (d :: d1 :: d2 :: d3 :: xs)) (.int 3) = some d3 := subD_tup (k := 3) rfl
@[simp] theorem subD_t4 : subD (.tup (d :: d1 :: d2 :: d3 :: d4 :: xs)) (.int 4) = some d4 := subD_tup (k := 4) rfl
@[simp] theorem subD_t5 : subD (.tup (d :: d1 :: d2 :: d3 :: d4 :: d5 :: xs)) (.int 5) = some d5 := subD_tup (k := 5) rfl
@[simp] theorem itemsOf_tup : itemsOf (.tup xs) = some xs := rfl
@[simp] theorem itemsOf_lst : itemsOf (.lst xs) = some xs := rfl
@[simp] theorem lstsOf_lst : lstsOf (.lst xs) = some xs := rfl
@[simp] theorem zipsOf_tup : zipsOf (.tup xs) (.tup ys) = some (xs, ys) := rfl
@[simp] theorem zipsOf_lst : zipsOf (.lst xs) (.lst ys) = some (xs, ys) := rfl
@[simp] theorem isContainer_lst : isContainer (.lst xs) = true := rfl
@[simp] theorem isContainer_tup : isContainer (.tup xs) = false := rfl
@[simp] theorem isContainer_int : isContainer (.int i) = false := rfl
@[simp] theorem isContainer_bl : isContainer (.bl a) = false := rfl
@[simp] theorem isContainer_str : isContainer (.str x) = false := rfl
@[simp] theorem isContainer_non : isContainer .non = false := rfl
@[simp] theorem isLstD_lst : isLstD (.lst xs) = true := rfl
@[simp] theorem isStrD_str : isStrD (.str x) = true := rfl
end

/-! ### what is new -/
section
variable {fr : Nat → Bool}
@[simp] theorem freshE_lst {es} : freshE fr (.lst es) = true := rfl
@[simp] theorem freshE_lc {own elt t it c} : freshE fr (.lc own elt t it c) = true := rfl
@[simp] theorem freshE_dic {ks vs} : freshE fr (.dic ks vs) = true := rfl
@[simp] theorem freshE_bin {op a b} : freshE fr (.bin op a b) = true := rfl
@[simp] theorem freshE_sl {a lo hi} : freshE fr (.sl a lo hi) = true := rfl
@[simp] theorem freshE_rev {a} : freshE fr (.rev a) = true := rfl
@[simp] theorem freshE_bi_list {as} : freshE fr (.bi .list as) = true := rfl
@[simp] theorem freshE_bi_sorted {as} : freshE fr (.bi .sorted as) = true := rfl
@[simp] theorem freshE_ite {c a b} : freshE fr (.ite c a b) = (freshE fr a && freshE fr b) := rfl
@[simp] theorem freshE_call {f as} : freshE fr (.call f as) = fr f := rfl
@[simp] theorem freshE_var {i} : freshE fr (.var i) = false := rfl
@[simp] theorem freshE_rv {i} : freshE fr (.rv i) = false := rfl
@[simp] theorem freshE_cst {d} : freshE fr (.cst d) = false := rfl
@[simp] theorem freshE_fn {f} : freshE fr (.fn f) = false := rfl
@[simp] theorem freshE_tup {es} : freshE fr (.tup es) = false := rfl
@[simp] theorem freshE_neg {a} : freshE fr (.neg a) = false := rfl
@[simp] theorem freshE_not {a} : freshE fr (.not a) = false := rfl
@[simp] theorem freshE_and {a b} : freshE fr (.and a b) = false := rfl
@[simp] theorem freshE_or {a b} : freshE fr (.or a b) = false := rfl
@[simp] theorem freshE_cmp {op a b} : freshE fr (.cmp op a b) = false := rfl
@[simp] theorem freshE_chain {op op' a b c} : freshE fr (.chain op op' a b c) = false := rfl
@[simp] theorem freshE_cal {i as} : freshE fr (.cal i as) = false := rfl
@[simp] theorem freshE_lam {f b} : freshE fr (.lam f b) = false := rfl
@[simp] theorem freshE_bi_tuple {as} : freshE fr (.bi .tuple as) = false := rfl
@[simp] theorem freshE_bi_len {as} : freshE fr (.bi .len as) = false := rfl
@[simp] theorem freshE_bi_all {as} : freshE fr (.bi .all as) = false := rfl
@[simp] theorem freshE_bi_any {as} : freshE fr (.bi .any as) = false := rfl
@[simp] theorem freshE_bi_sum {as} : freshE fr (.bi .sum as) = false := rfl
@[simp] theorem freshE_bi_int {as} : freshE fr (.bi .int as) = false := rfl
@[simp] theorem freshE_bi_abs {as} : freshE fr (.bi .abs as) = false := rfl
@[simp] theorem freshE_bi_str {as} : freshE fr (.bi .str as) = false := rfl
@[simp] theorem freshE_bi_min1 {as} : freshE fr (.bi .min1 as) = false := rfl
@[simp] theorem freshE_bi_min2 {as} : freshE fr (.bi .min2 as) = false := rfl
@[simp] theorem freshE_bi_max1 {as} : freshE fr (.bi .max1 as) = false := rfl
@[simp] theorem freshE_bi_max2 {as} : freshE fr (.bi .max2 as) = false := rfl
@[simp] theorem freshE_bi_isInt {as} : freshE fr (.bi .isInt as) = false := rfl
@[simp] theorem freshE_bi_isBool {as} : freshE fr (.bi .isBool as) = false := rfl
@[simp] theorem freshE_bi_isStr {as} : freshE fr (.bi .isStr as) = false := rfl
@[simp] theorem freshE_bi_isTuple {as} : freshE fr (.bi .isTuple as) = false := rfl
@[simp] theorem freshE_bi_isList {as} : freshE fr (.bi .isList as) = false := rfl
@[simp] theorem freshE_mt {m a as} : freshE fr (.mt m a as) = false := rfl
@[simp] theorem freshE_mm {m i as} : freshE fr (.mm m i as) = false := rfl
@[simp] theorem freshE_sub {a b} : freshE fr (.sub a b) = false := rfl
@[simp] theorem freshE_isx {i f} : freshE fr (.isx i f) = false := rfl
end
/-! ### ways, joined -/
section
variable {β : Type} {p : Prop} [Decidable p] {σ : β} {a b : D}
@[simp] theorem ite_okD : (if p then R.ok (a, σ) else R.ok (b, σ)) = R.ok (if p then a else b, σ) := by by_cases h : p <;> simp [h]
@[simp] theorem ite_okR : (if p then R.ok (Fl.rt a, σ) else R.ok (Fl.rt b, σ)) = R.ok (Fl.rt (if p then a else b), σ) := by by_cases h : p <;> simp [h]
@[simp] theorem ite_int {i j : Int} : (if p then D.int i else D.int j) = D.int (if p then i else j) := by by_cases h : p <;> simp [h]
@[simp] theorem ite_bl {i j : Bool} : (if p then D.bl i else D.bl j) = D.bl (if p then i else j) := by by_cases h : p <;> simp [h]
@[simp] theorem ite_lst {i j : List D} : (if p then D.lst i else D.lst j) = D.lst (if p then i else j) := by by_cases h : p <;> simp [h]
@[simp] theorem ite_tup {i j : List D} : (if p then D.tup i else D.tup j) = D.tup (if p then i else j) := by by_cases h : p <;> simp [h]
@[simp] theorem ite_str {i j : Str} : (if p then D.str i else D.str j) = D.str (if p then i else j) := by by_cases h : p <;> simp [h]
end
/-! ### sizes -/
def Fit {α : Type} (m : Nat) (xs : List α) : Prop := xs.length ≤ m
section
variable {α β : Type} {m : Nat} {xs ys : List α} {p : Prop} [Decidable p]
theorem Fit.of {k : Nat} (h : xs.length ≤ k) : ∀ m, k ≤ m → Fit m xs := fun _ hm => Nat.le_trans h hm
@[simp] theorem fit_nil : Fit m ([] : List α) := Nat.zero_le _
@[simp] theorem fit_cons {x : α} (h1 : 0 < m) (h : Fit (m - 1) xs) : Fit m (x :: xs) := by unfold Fit at *; simp; omega
@[simp] theorem fit_app (h1 : Fit (m / 2) xs) (h2 : Fit (m / 2) ys) : Fit m (xs ++ ys) := by unfold Fit at *; simp; omega
@[simp] theorem fit_ite (h1 : Fit m xs) (h2 : Fit m ys) : Fit m (if p then xs else ys) := by split <;> assumption
@[simp] theorem fit_map {f : α → β} : Fit m (xs.map f) = Fit m xs := by unfold Fit; simp
@[simp] theorem fit_filter {f : α → Bool} (h : Fit m xs) : Fit m (xs.filter f) := Nat.le_trans (List.length_filter_le _ _) h
@[simp] theorem fit_filterMap {f : α → Option β} (h : Fit m xs) : Fit m (xs.filterMap f) := Nat.le_trans (List.length_filterMap_le _ _) h
@[simp] theorem fit_rev : Fit m xs.reverse = Fit m xs := by unfold Fit; simp
@[simp] theorem fit_take {k : Nat} (h : Fit m xs) : Fit m (xs.take k) := by unfold Fit at *; simp; omega
@[simp] theorem fit_drop {k : Nat} (h : Fit m xs) : Fit m (xs.drop k) := by unfold Fit at *; simp; omega
theorem fit_len : Fit m xs = (xs.length ≤ m) := rfl
@[simp] theorem fit_range {k : Nat} : Fit m (List.range k) = (k ≤ m) := by unfold Fit; simp
end
section
variable {xs ys : List D} {d : D}
@[simp] theorem bop_addL (h1 : Fit 8388608 xs) (h2 : Fit 8388608 ys) : bop .add (.lst xs) (.lst ys) = some (.lst (xs ++ ys)) := if_pos (by unfold Fit at *; unfold SZ; omega)
@[simp] theorem bop_addT (h1 : Fit 8388608 xs) (h2 : Fit 8388608 ys) : bop .add (.tup xs) (.tup ys) = some (.tup (xs ++ ys)) := if_pos (by unfold Fit at *; unfold SZ; omega)
@[simp] theorem mmD_append (h : Fit 16777215 xs) : mmD .append (.lst xs) [d] = some (.non, .lst (xs ++ [d])) := if_pos (by unfold Fit at *; unfold SZ; omega)
end
@[simp] theorem intL_nil : intL [] = [] := rfl
@[simp] theorem intL_cons (x : Int) (xs : List Int) : intL (x :: xs) = .int x :: intL xs := rfl
@[simp] theorem intL_app (xs ys : List Int) : intL (xs ++ ys) = intL xs ++ intL ys := by simp [intL]
@[simp] theorem intL_ite {p : Prop} [Decidable p] (xs ys : List Int) : intL (if p then xs else ys) = if p then intL xs else intL ys := by split <;> rfl
@[simp] theorem intL_len (xs : List Int) : (intL xs).length = xs.length := by simp [intL]
@[simp] theorem fit_intL {m : Nat} (xs : List Int) : Fit m (intL xs) = Fit m xs := by simp [intL]
@[simp] theorem parOk_nil (fr) : parOk fr [] .nil = true := rfl
@[simp] theorem parOk_cons (fr i is e es) : parOk fr (i :: is) (.cons e es) = ((!i.2 || freshE fr e) && parOk fr is es) := rfl
@[simp] theorem setAll_nil (σ) : setAll [] [] σ = .ok σ := rfl
@[simp] theorem setAll_cons (i is d ds σ) : setAll (i :: is) (d :: ds) σ = if i.2 && !isContainer d then .bad else setAll is ds (σ.set i.1 (some d)) := rfl
end BF

/-! Sx2 -/
set_option linter.all false
set_option maxRecDepth 100000
/-! Loops and comprehensions, as wholes. -/
namespace BF
open PySem
@[simp] theorem wipeD_nil (σ : Sd) : wipeD σ [] = σ := rfl
@[simp] theorem wipeD_cons (σ : Sd) (v : Nat) (vs : List Nat) : wipeD σ (v :: vs) = (wipeD σ vs).set v none := rfl
@[simp] theorem back_nil (σ0 σ : Sd) : back [] σ0 σ = σ := rfl
@[simp] theorem back_cons (σ0 σ : Sd) (v : Nat) (vs : List Nat) : back (v :: vs) σ0 σ = (back vs σ0 σ).set v ((σ0[v]?).getD none) := rfl
section
variable {p : Prop} [Decidable p] {β : Type} {σ : β}
@[simp] theorem ite_okO {a b : Option D} : (if p then R.ok (a, σ) else R.ok (b, σ)) = R.ok (if p then a else b, σ) := by by_cases h : p <;> simp [h]
@[simp] theorem ite_someD {a b : D} : (if p then some a else some b) = some (if p then a else b) := by by_cases h : p <;> simp [h]
end
theorem wipe_len (σ : Sd) : ∀ vs : List Nat, (wipeD σ vs).length = σ.length
  | [] => rfl
  | v :: vs => by rw [wipeD_cons, List.length_set, wipe_len σ vs]
theorem wipe_at (σ : Sd) : ∀ (vs : List Nat) (i : Nat), (wipeD σ vs)[i]? = if i ∈ vs then (σ[i]?).map (fun _ => none) else σ[i]?
  | [], i => by simp
  | v :: vs, i => by
    rw [wipeD_cons, List.getElem?_set, wipe_at σ vs i, wipe_len]
    by_cases h : v = i
    · subst h
      by_cases h2 : v < σ.length
      · simp [h2]
      · simp [h2, Nat.not_lt.mp h2]
    · have : ¬ i = v := fun e => h e.symm
      simp [h, this]
theorem backx_len (σ0 σ : Sd) : ∀ vs : List Nat, (back vs σ0 σ).length = σ.length
  | [] => rfl
  | v :: vs => by rw [back_cons, List.length_set, backx_len σ0 σ vs]
theorem back_at (σ0 σ : Sd) : ∀ (vs : List Nat) (i : Nat), (back vs σ0 σ)[i]? = if i ∈ vs then (σ[i]?).map (fun _ => (σ0[i]?).getD none) else σ[i]?
  | [], i => by simp
  | v :: vs, i => by
    rw [back_cons, List.getElem?_set, back_at σ0 σ vs i, backx_len]
    by_cases h : v = i
    · subst h
      by_cases h2 : v < σ.length
      · simp [h2]
      · simp [h2, Nat.not_lt.mp h2]
    · have : ¬ i = v := fun e => h e.symm
      simp [h, this]
/-- what is put back hangs on what is not wiped alone -/
theorem back_wipe {σ0 σ σ' : Sd} {vs : List Nat} (h : wipeD σ' vs = wipeD σ vs) : back vs σ0 σ' = back vs σ0 σ := by
  have hl : σ'.length = σ.length := by rw [← wipe_len σ' vs, h, wipe_len]
  apply List.ext_getElem?
  intro i
  have := congrArg (fun z : Sd => z[i]?) h
  simp only [wipe_at] at this
  rw [back_at, back_at]
  by_cases hi : i ∈ vs
  · simp only [hi, if_true]
    by_cases h2 : i < σ.length
    · have h2' : i < σ'.length := by omega
      simp [h2, h2']
    · have e1 : σ[i]? = none := List.getElem?_eq_none_iff.mpr (by omega)
      have e2 : σ'[i]? = none := List.getElem?_eq_none_iff.mpr (by omega)
      rw [e1, e2]
  · simpa only [hi, if_false] using this
section
variable {α : Type} {own : List Nat} {elt : E} {t : T} {c : Eo} {l : Lv} {σ0 σ : Sd}
theorem lcGo_eq (enc : α → D) (o : α → Option D) {σw : Sd} : ∀ (ys : List α) (σ : Sd) (acc : List D), wipeD σ own = σw → (∀ y ∈ ys, ∃ σ', lcT elt t c l (enc y) σw = .ok (o y, σ') ∧ wipeD σ' own = σw) → acc.length + ys.length ≤ SZ →
    ∃ σ', lcGo (fun x σ => lcT elt t c l x (wipeD σ own)) (ys.map enc) σ acc = .ok (acc ++ ys.filterMap o, σ') ∧ wipeD σ' own = σw
  | [], σ, acc, hw, _, _ => ⟨σ, by simp [lcGo], hw⟩
  | y :: ys, σ, acc, hw, h, hl => by
    obtain ⟨σ1, h1, h2⟩ := h y List.mem_cons_self
    have h' := fun z hz => h z (List.mem_cons_of_mem _ hz)
    cases hy : o y with
    | some d =>
      obtain ⟨σ', e1, e2⟩ := lcGo_eq enc o ys σ1 (acc ++ [d]) h2 h' (by simp at hl ⊢; omega)
      refine ⟨σ', ?_, e2⟩
      rw [List.map_cons]
      unfold lcGo
      rw [hw, h1, hy]
      simp only [bind_ok]
      rw [if_pos (by simp at hl; unfold SZ; omega), e1, List.filterMap_cons_some hy]
      simp
    | none =>
      obtain ⟨σ', e1, e2⟩ := lcGo_eq enc o ys σ1 acc h2 h' (by simp at hl ⊢; omega)
      refine ⟨σ', ?_, e2⟩
      rw [List.map_cons]
      unfold lcGo
      rw [hw, h1, hy]
      simp only [bind_ok]
      rw [e1, List.filterMap_cons_none hy]
/-- a turn's end, the block's names forgotten -/
def lcR (own : List Nat) (r : R (Option D × Sd)) : R (Option D × Sd) := r.bind fun q => .ok (q.1, wipeD q.2 own)
@[simp] theorem lcR_ok (own : List Nat) (d : Option D) (σ : Sd) : lcR own (.ok (d, σ)) = .ok (d, wipeD σ own) := rfl
theorem lcR_of {r : R (Option D × Sd)} {d : Option D} {σw : Sd} (h : lcR own r = .ok (d, σw)) : ∃ σ', r = .ok (d, σ') ∧ wipeD σ' own = σw := by
  cases r with
  | ok q =>
    obtain ⟨x, σ'⟩ := q
    simp at h
    exact ⟨σ', by rw [h.1], h.2⟩
  | exc c => cases h
  | bad => cases h
/-- a comprehension over things told by enc: what each turn gives -/
theorem lcS_opt (enc : α → D) (o : α → Option D) {ys : List α} (hl : Fit 16777216 ys) (h : ∀ y ∈ ys, lcR own (lcT elt t c l (enc y) (wipeD σ own)) = .ok (o y, wipeD σ own)) : lcS own elt t c l σ0 (ys.map enc) σ = .ok (.lst (ys.filterMap o), back own σ0 σ) := by
  obtain ⟨σ', e1, e2⟩ := lcGo_eq enc o ys σ [] rfl (fun y hy => lcR_of (h y hy)) (by unfold Fit at hl; unfold SZ; simpa using hl)
  unfold lcS
  rw [e1]
  simp [back_wipe e2]
theorem lcS_map (enc : α → D) (g : α → D) {ys : List α} (hl : Fit 16777216 ys) (h : ∀ y ∈ ys, lcR own (lcT elt t c l (enc y) (wipeD σ own)) = .ok (some (g y), wipeD σ own)) : lcS own elt t c l σ0 (ys.map enc) σ = .ok (.lst (ys.map g), back own σ0 σ) := by
  rw [lcS_opt enc (fun y => some (g y)) hl h]
  simp
theorem lcS_filt (enc : α → D) (p : α → Prop) [DecidablePred p] (g : α → D) {ys : List α} (hl : Fit 16777216 ys) (h : ∀ y ∈ ys, lcR own (lcT elt t c l (enc y) (wipeD σ own)) = .ok (if p y then some (g y) else none, wipeD σ own)) : lcS own elt t c l σ0 (ys.map enc) σ = .ok (.lst ((ys.filter fun y => decide (p y)).map g), back own σ0 σ) := by
  rw [lcS_opt enc (fun y => if p y then some (g y) else none) hl h]
  congr 3
  induction ys with
  | nil => rfl
  | cons y ys ih =>
    have ih := ih (by unfold Fit at *; simp at hl; omega) fun z hz => h z (List.mem_cons_of_mem _ hz)
    by_cases hp : p y
    · rw [List.filterMap_cons_some (b := g y) (by simp [hp]), List.filter_cons_of_pos (by simp [hp]), List.map_cons, ih]
    · rw [List.filterMap_cons_none (by simp [hp]), List.filter_cons_of_neg (by simp [hp]), ih]
/-! ### for -/
/-- a loop that goes to its end -/
theorem forS_inv {b : Ss} (enc : α → D) (Inv : List α → Sd → Prop) {ys : List α} {σ : Sd} (h0 : Inv [] σ)
    (hs : ∀ pre y post σ, ys = pre ++ y :: post → Inv pre σ → ∃ σ2, ((asg t (enc y) σ).bind fun σ1 => exs b l σ1) = .ok (.nx, σ2) ∧ Inv (pre ++ [y]) σ2) : ∃ σ', forS t b l (ys.map enc) σ = .ok (.nx, σ') ∧ Inv ys σ' := by
  have key : ∀ (post pre : List α) (σ : Sd), ys = pre ++ post → Inv pre σ → ∃ σ', forS t b l (post.map enc) σ = .ok (.nx, σ') ∧ Inv ys σ' := by
    intro post
    induction post with
    | nil => intro pre σ e hI; exact ⟨σ, rfl, by rw [e]; simpa using hI⟩
    | cons y post ih =>
      intro pre σ e hI
      obtain ⟨σ2, h1, h2⟩ := hs pre y post σ e hI
      obtain ⟨σ', h3, h4⟩ := ih (pre ++ [y]) σ2 (by simp [e]) h2
      refine ⟨σ', ?_, h4⟩
      unfold forS at h3 ⊢
      rw [List.map_cons]
      unfold forGo
      rw [h1]
      exact h3
  exact key ys [] σ rfl h0
/-- a loop that may end with a return: at the first y of which p holds -/
theorem forS_find {b : Ss} (enc : α → D) (p : α → Bool) (Inv : List α → Sd → Prop) (Q : α → D → Sd → Prop) {ys : List α} {σ : Sd} (h0 : Inv [] σ)
    (hs : ∀ pre y post σ, ys = pre ++ y :: post → (∀ z ∈ pre, p z = false) → p y = false → Inv pre σ → ∃ σ2, ((asg t (enc y) σ).bind fun σ1 => exs b l σ1) = .ok (.nx, σ2) ∧ Inv (pre ++ [y]) σ2)
    (hf : ∀ pre y post σ, ys = pre ++ y :: post → (∀ z ∈ pre, p z = false) → p y = true → Inv pre σ → ∃ d σ2, ((asg t (enc y) σ).bind fun σ1 => exs b l σ1) = .ok (.rt d, σ2) ∧ Q y d σ2) :
    (ys.find? p = none ∧ ∃ σ', forS t b l (ys.map enc) σ = .ok (.nx, σ') ∧ Inv ys σ') ∨ ∃ y d σ', ys.find? p = some y ∧ forS t b l (ys.map enc) σ = .ok (.rt d, σ') ∧ Q y d σ' := by
  have key : ∀ (post pre : List α) (σ : Sd), ys = pre ++ post → (∀ z ∈ pre, p z = false) → Inv pre σ → (post.find? p = none ∧ ∃ σ', forS t b l (post.map enc) σ = .ok (.nx, σ') ∧ Inv ys σ') ∨ ∃ y d σ', post.find? p = some y ∧ forS t b l (post.map enc) σ = .ok (.rt d, σ') ∧ Q y d σ' := by
    intro post
    induction post with
    | nil => intro pre σ e hp hI; exact .inl ⟨rfl, σ, rfl, by rw [e]; simpa using hI⟩
    | cons y post ih =>
      intro pre σ e hp hI
      cases hy : p y with
      | true =>
        obtain ⟨d, σ2, h1, h2⟩ := hf pre y post σ e hp hy hI
        refine .inr ⟨y, d, σ2, by simp [hy], ?_, h2⟩
        unfold forS
        rw [List.map_cons]
        unfold forGo
        rw [h1]
        rfl
      | false =>
        obtain ⟨σ2, h1, h2⟩ := hs pre y post σ e hp hy hI
        have st : forS t b l ((y :: post).map enc) σ = forS t b l (post.map enc) σ2 := by
          unfold forS
          rw [List.map_cons]
          conv => lhs; unfold forGo
          rw [h1]
          rfl
        rcases ih (pre ++ [y]) σ2 (by simp [e]) (fun z hz => by
          rcases List.mem_append.mp hz with h | h
          · exact hp z h
          · rw [List.mem_singleton.mp h]; exact hy) h2 with ⟨h3, σ', h4, h5⟩ | ⟨z, d, σ', h3, h4, h5⟩
        · exact .inl ⟨by simp [hy, h3], σ', by rw [st]; exact h4, h5⟩
        · exact .inr ⟨z, d, σ', by simp [hy, h3], by rw [st]; exact h4, h5⟩
  exact key ys [] σ rfl (fun z hz => by cases hz) h0
end
/-! ### ranges -/
theorem rangeL_nat (k : Nat) : rangeL 0 k = (List.range k).map fun i : Nat => D.int i := by
  unfold rangeL
  simp
theorem rangeL_from (lo : Int) (k : Nat) (hi : Int) (h : hi = lo + k) : rangeL lo hi = (List.range k).map fun i : Nat => D.int (lo + i) := by
  unfold rangeL
  rw [show (hi - lo).toNat = k by omega]
theorem rngOk_of {i : Int} (h : -1000000000 ≤ i) (h2 : i ≤ 1000000000) : rngOk i = true := by
  unfold rngOk
  simp
  omega

/-! ### what the laws compare -/
def sortD : D → Int
  | .non => 0 | .bl _ => 1 | .int _ => 2 | .str _ => 3 | .tup _ => 4 | .lst _ => 5 | _ => 6
mutual
/-- plain, at most so deep, no row too long -/
def lkd : Nat → D → Bool
  | _, .non => true
  | _, .bl _ => true
  | _, .int _ => true
  | _, .str _ => true
  | n, .lst xs => (match n with | 0 => false | n + 1 => decide (xs.length ≤ 16777216) && lkds n xs)
  | n, .tup xs => (match n with | 0 => false | n + 1 => decide (xs.length ≤ 16777216) && lkds n xs)
  | _, _ => false
def lkds : Nat → List D → Bool
  | _, [] => true
  | n, x :: xs => lkd n x && lkds n xs
end
theorem lks_mem {n : Nat} : ∀ {xs : List D}, lkds n xs = true → ∀ x ∈ xs, lkd n x = true
  | [], _, x, h => by cases h
  | y :: xs, h, x, hx => by
    unfold lkds at h
    simp only [Bool.and_eq_true] at h
    rcases List.mem_cons.mp hx with rfl | hx
    · exact h.1
    · exact lks_mem h.2 x hx
@[simp] theorem lk_non (n) : lkd n .non = true := by unfold lkd; rfl
@[simp] theorem lk_bl (n b) : lkd n (.bl b) = true := by unfold lkd; rfl
@[simp] theorem lk_int (n i) : lkd n (.int i) = true := by unfold lkd; rfl
@[simp] theorem lk_str (n x) : lkd n (.str x) = true := by unfold lkd; rfl
@[simp] theorem lk_lst (n xs) : lkd (n + 1) (.lst xs) = (decide (xs.length ≤ 16777216) && lkds n xs) := by rw [lkd]
@[simp] theorem lk_tup (n xs) : lkd (n + 1) (.tup xs) = (decide (xs.length ≤ 16777216) && lkds n xs) := by rw [lkd]
@[simp] theorem lks_nil (n) : lkds n [] = true := by unfold lkds; rfl
@[simp] theorem lks_cons (n x xs) : lkds n (x :: xs) = (lkd n x && lkds n xs) := by conv => lhs; unfold lkds
@[simp] theorem lks_app (n xs ys) : lkds n (xs ++ ys) = (lkds n xs && lkds n ys) := by
  induction xs with
  | nil => simp
  | cons x xs ih => simp [ih, Bool.and_assoc]
theorem lks_map {α : Type} {n : Nat} {f : α → D} {ys : List α} (h : ∀ y ∈ ys, lkd n (f y) = true) : lkds n (ys.map f) = true := by
  induction ys with
  | nil => simp
  | cons y ys ih => simp [h y, ih fun z hz => h z (List.mem_cons_of_mem _ hz)]
theorem lks_flatMap {α : Type} {n : Nat} {f : α → List D} {ys : List α} (h : ∀ y ∈ ys, lkds n (f y) = true) : lkds n (ys.flatMap f) = true := by
  induction ys with
  | nil => simp
  | cons y ys ih => simp [h y, ih fun z hz => h z (List.mem_cons_of_mem _ hz)]
@[simp] theorem lks_intL (n xs) : lkds n (intL xs) = true := lks_map fun _ _ => by simp
theorem zipL_self (xs : List D) : zipL xs xs = xs.map fun x => D.tup [x, x] := by
  unfold zipL
  induction xs with
  | nil => rfl
  | cons x xs ih => simp only [List.zip_cons_cons, List.map_cons]; rw [ih]
theorem enumL_map {α : Type} (f : α → D) (ys : List α) : enumL (ys.map f) = ((List.range ys.length).zip ys).map fun q => D.tup [.int (q.1 : Nat), f q.2] := by
  unfold enumL
  rw [List.length_map, List.zip_map_right, List.map_map]
  rfl
theorem enumL_range (f : Nat → D) (k : Nat) : enumL ((List.range k).map f) = (List.range k).map fun i => D.tup [.int (i : Nat), f i] := by
  rw [enumL_map, List.length_range]
  have : ∀ l : List Nat, (l.zip l).map (fun q : Nat × Nat => D.tup [.int (q.1 : Nat), f q.2]) = l.map fun i => D.tup [.int (i : Nat), f i] := fun l => by
    induction l with
    | nil => rfl
    | cons x xs ih => simp only [List.zip_cons_cons, List.map_cons]; rw [ih]
  exact this _
/-- a list of drawn numbers: a cup -/
def Cup (d : D) : Prop := ∃ a b : Int, 0 ≤ a ∧ 0 ≤ b ∧ d = .lst [.int a, .int b]
@[simp] theorem cmpD_eq_non : cmpD .eq .non .non = some true := rfl
theorem cmpD_eq_nil : cmpD .eq (.lst []) (.lst []) = some true := rfl

/-! ### in -/
def inO (a : D) (xs : List D) : Option Bool := if flat a && xs.all flat then some (xs.any fun y => deq y a) else none
section
variable {i j : Int} {x y : Str} {a b : Bool} {xs : List D} {d : D}
@[simp] theorem cmpD_in_tup : cmpD .isin d (.tup xs) = inO d xs := rfl
@[simp] theorem cmpD_in_lst : cmpD .isin d (.lst xs) = inO d xs := rfl
@[simp] theorem cmpD_notin_tup : cmpD .notin d (.tup xs) = (inO d xs).map (!·) := rfl
@[simp] theorem cmpD_notin_lst : cmpD .notin d (.lst xs) = (inO d xs).map (!·) := rfl
@[simp] theorem inO_int_nil : inO (.int i) [] = some false := rfl
@[simp] theorem inO_str_nil : inO (.str x) [] = some false := rfl
@[simp] theorem inO_bl_nil : inO (.bl a) [] = some false := rfl
theorem inO_cons {e : D} (he : flat e = true) (hd : flat d = true) : inO d (e :: xs) = (inO d xs).map (deq e d || ·) := by
  unfold inO
  simp only [List.all_cons, he, hd, Bool.true_and, List.any_cons]
  split <;> rfl
@[simp] theorem inO_int_int : inO (.int i) (.int j :: xs) = (inO (.int i) xs).map (decide (i = j) || ·) := by
  rw [inO_cons rfl rfl]
  have : deq (.int j) (.int i) = decide (i = j) := by
    show decide (j = i) = _
    exact decide_eq_decide.mpr ⟨Eq.symm, Eq.symm⟩
  rw [this]
@[simp] theorem inO_str_str : inO (.str x) (.str y :: xs) = (inO (.str x) xs).map ((y == x) || ·) := inO_cons rfl rfl
theorem inO_intL (is : List Int) : inO (.int i) (intL is) = some (decide (i ∈ is)) := by
  induction is with
  | nil => rfl
  | cons j is ih =>
    rw [intL_cons, inO_int_int, ih]
    simp
end

/-! ### more operators -/
section
variable {i j : Int} {xs : List D} {d d0 d1 v : D}
theorem bop_pow (h : 0 ≤ j) (h2 : j ≤ 1000000) (h3 : i.natAbs < 2 ^ 64) : bop .pow (.int i) (.int j) = some (.int (i ^ j.toNat)) := by
  show (if 0 ≤ j ∧ j ≤ 1000000 ∧ i.natAbs < 2 ^ 64 then some (i ^ j.toNat) else none).map D.int = _
  rw [if_pos ⟨h, h2, h3⟩]
  rfl
theorem bop_shl (h : 0 ≤ j) (h2 : j ≤ 1000000) (h3 : i.natAbs < 2 ^ 64) : bop .shl (.int i) (.int j) = some (.int (i * 2 ^ j.toNat)) := by
  show (if 0 ≤ j ∧ j ≤ 1000000 ∧ i.natAbs < 2 ^ 64 then some (i * 2 ^ j.toNat) else none).map D.int = _
  rw [if_pos ⟨h, h2, h3⟩]
  rfl
theorem bop_shr (h : 0 ≤ j) : bop .shr (.int i) (.int j) = some (.int (i / 2 ^ j.toNat)) := by
  show (if 0 ≤ j then some (i / 2 ^ j.toNat) else none).map D.int = _
  rw [if_pos h]
  rfl
theorem bop_band (h : 0 ≤ i) (h2 : 0 ≤ j) : bop .band (.int i) (.int j) = some (.int ((i.toNat &&& j.toNat : Nat) : Int)) := by
  show (if 0 ≤ i ∧ 0 ≤ j then some ((i.toNat &&& j.toNat : Nat) : Int) else none).map D.int = _
  rw [if_pos ⟨h, h2⟩]
  rfl
theorem bop_bxor (h : 0 ≤ i) (h2 : 0 ≤ j) : bop .bxor (.int i) (.int j) = some (.int ((i.toNat ^^^ j.toNat : Nat) : Int)) := by
  show (if 0 ≤ i ∧ 0 ≤ j then some ((i.toNat ^^^ j.toNat : Nat) : Int) else none).map D.int = _
  rw [if_pos ⟨h, h2⟩]
  rfl
theorem setD_lst {k : Nat} (h : k < xs.length) : setD (.lst xs) (.int k) v = some (.lst (xs.set k v)) := by
  show (ixn xs.length k).map _ = _
  unfold ixn
  rw [if_pos (by omega), if_pos (by omega)]
  simp
@[simp] theorem setD_l0 : setD (.lst (d :: xs)) (.int 0) v = some (.lst (v :: xs)) := setD_lst (k := 0) (by simp)
@[simp] theorem setD_l1 : setD (.lst (d :: d0 :: xs)) (.int 1) v = some (.lst (d :: v :: xs)) := setD_lst (k := 1) (by simp)
end
end BF
namespace BF
/-! ### for the kernel -/
noncomputable def fLV (tb : List Fd) (sub : Nat → Nat → Bool) (n : Nat) (fd : Fd) : Lv := ⟨tb, fd.own, sub, fFs tb sub n, (fTs tb sub n).2.2, frunHd tb sub, .bad, none, fd.fresh⟩
theorem LV_fast (tb : List Fd) (sub : Nat → Nat → Bool) (n : Nat) (fd : Fd) : LV tb sub n fd = fLV tb sub n fd := by
  unfold LV fLV
  rw [fFs_eq, fTs_eq, frunHd_eq]
theorem ex_fast {tb : List Fd} {sub : Nat → Nat → Bool} {n : Nat} {fd : Fd} {s : S} {σ : Sd} {r : R (Fl × Sd)} (h : fx s (fLV tb sub n fd) σ = r) : ex s (LV tb sub n fd) σ = r := by rw [LV_fast, ← fx_eq]; exact h
theorem exs_fast {tb : List Fd} {sub : Nat → Nat → Bool} {n : Nat} {fd : Fd} {s : Ss} {σ : Sd} {r : R (Fl × Sd)} (h : fxs s (fLV tb sub n fd) σ = r) : exs s (LV tb sub n fd) σ = r := by rw [LV_fast, ← fxs_eq]; exact h
theorem exs_step {s : S} {ss : Ss} {l : Lv} {σ σ1 : Sd} {r : R (Fl × Sd)} (h : ex s l σ = .ok (.nx, σ1)) (h2 : exs ss l σ1 = r) : exs (.cons s ss) l σ = r := by
  rw [exs_cons, h]
  exact h2
/-- a return of True, the first name as it was -/
def rtT (r : R (Fl × Sd)) : Option D := match r with
  | .ok (.rt (.bl true), some c :: _) => some c
  | _ => none
theorem rtT_of {r : R (Fl × Sd)} {c : D} (h : rtT r = some c) : ∃ σ, r = .ok (.rt (.bl true), some c :: σ) := by
  unfold rtT at h
  split at h
  · cases h; exact ⟨_, rfl⟩
  · cases h
end BF

/-! Sx3 -/
set_option linter.all false
set_option maxRecDepth 100000
/-! Draws, bits, small numbers. -/
namespace BF
open PySem
theorem wipe_wipe (σ : Sd) (vs : List Nat) : wipeD (wipeD σ vs) vs = wipeD σ vs := by
  apply List.ext_getElem?
  intro i
  rw [wipe_at, wipe_at]
  by_cases h : i ∈ vs
  · simp only [h, if_true, Option.map_map]
    rfl
  · simp [h]
section
variable {α β : Type} {own : List Nat} {elt : E} {t : T} {c : Eo} {l : Lv} {σ0 σ : Sd}
theorem lcR_inv {r : R (Option D × Sd)} {d : Option D} {σw : Sd} (h : lcR own r = .ok (d, σw)) : ∃ σ', r = .ok (d, σ') ∧ σw = wipeD σ' own := by
  obtain ⟨σ', h1, h2⟩ := lcR_of h
  exact ⟨σ', h1, h2.symm⟩
theorem lcGo_draw (enc : α → D) (dec : β → D) (P : β → Prop) (Inv : Sd → Prop) : ∀ (ys : List α) (σ : Sd) (acc : List D), Inv (wipeD σ own) →
    (∀ y ∈ ys, ∀ σw, Inv σw → ∃ b σw', lcR own (lcT elt t c l (enc y) σw) = .ok (some (dec b), σw') ∧ P b ∧ Inv σw') → acc.length + ys.length ≤ SZ →
    ∃ (bs : List β) (σ' : Sd), lcGo (fun x σ => lcT elt t c l x (wipeD σ own)) (ys.map enc) σ acc = .ok (acc ++ bs.map dec, σ') ∧ Inv (wipeD σ' own) ∧ bs.length = ys.length ∧ ∀ b ∈ bs, P b
  | [], σ, acc, h0, _, _ => ⟨[], σ, by simp [lcGo], h0, rfl, fun b hb => nomatch hb⟩
  | y :: ys, σ, acc, h0, h, hl => by
    obtain ⟨b, σw, h1, h2, h3⟩ := h y List.mem_cons_self _ h0
    obtain ⟨σ1, h4, h5⟩ := lcR_inv h1
    subst h5
    obtain ⟨bs, σ', e1, e2, e3, e4⟩ := lcGo_draw enc dec P Inv ys σ1 (acc ++ [dec b]) h3 (fun z hz => h z (List.mem_cons_of_mem _ hz)) (by simp at hl ⊢; omega)
    refine ⟨b :: bs, σ', ?_, e2, by simp [e3], fun x hx => ?_⟩
    · rw [List.map_cons]
      unfold lcGo
      rw [h4]
      simp only [bind_ok]
      rw [if_pos (by simp at hl; unfold SZ; omega), e1]
      simp
    · rcases List.mem_cons.mp hx with rfl | hx
      · exact h2
      · exact e4 x hx
/-- a comprehension that draws: what is kept from turn to turn -/
theorem lcS_draw (enc : α → D) (dec : β → D) (P : β → Prop) (Inv : Sd → Prop) {ys : List α} (hl : Fit 16777216 ys) (h0 : Inv (wipeD σ own)) (h : ∀ y ∈ ys, ∀ σw, Inv σw → ∃ b σw', lcR own (lcT elt t c l (enc y) σw) = .ok (some (dec b), σw') ∧ P b ∧ Inv σw') :
    ∃ (bs : List β) (σw : Sd), lcS own elt t c l σ0 (ys.map enc) σ = .ok (.lst (bs.map dec), back own σ0 σw) ∧ Inv σw ∧ bs.length = ys.length ∧ ∀ b ∈ bs, P b := by
  obtain ⟨bs, σ', e1, e2, e3, e4⟩ := lcGo_draw enc dec P Inv ys σ [] h0 h (by unfold Fit at hl; unfold SZ; simpa using hl)
  refine ⟨bs, wipeD σ' own, ?_, e2, e3, e4⟩
  unfold lcS
  rw [e1]
  simp [back_wipe (wipe_wipe σ' own)]
end
/-! ### bits, small numbers -/
def bitD (b : Bool) : D := .int (if b then 1 else 0)
abbrev natD (n : Nat) : D := .int n
@[simp] theorem biD_allF {α : Type} (f : α → Bool) (l : List α) : biD .all [.lst (l.map fun x => D.bl (f x))] = some (.bl (l.all f)) := by
  show (bls (l.map fun x => D.bl (f x))).map _ = _
  rw [bls_map]
  simp
@[simp] theorem biD_anyF {α : Type} (f : α → Bool) (l : List α) : biD .any [.lst (l.map fun x => D.bl (f x))] = some (.bl (l.any f)) := by
  show (bls (l.map fun x => D.bl (f x))).map _ = _
  rw [bls_map]
  simp
theorem subD_tupM {α : Type} {f : α → D} {ys : List α} {k : Nat} {y : α} (h : ys[k]? = some y) : subD (.tup (ys.map f)) (.int k) = some (f y) := subD_tup (by simp [h])
theorem subD_lstM {α : Type} {f : α → D} {ys : List α} {k : Nat} {y : α} (h : ys[k]? = some y) : subD (.lst (ys.map f)) (.int k) = some (f y) := subD_lst (by simp [h])
theorem lkd_bit (n : Nat) (b : Bool) : lkd n (bitD b) = true := by unfold bitD; simp
theorem lkds_bits (n : Nat) (bs : List Bool) : lkds n (bs.map bitD) = true := lks_map fun b _ => lkd_bit n b
theorem rangeL_of {i : Int} {k : Nat} (h : i = k) : rangeL 0 i = (List.range k).map fun j : Nat => D.int j := by rw [h, rangeL_nat]
/-- d rows: equal as they are written -/
theorem cmpD_eq_dp {a b : D} (ha : dp 60 a = true) (hb : dp 60 b = true) : cmpD .eq a b = some (deq a b) := by
  show (if scalD a b || (dp 60 a && dp 60 b) then some (deq a b) else none) = _
  rw [ha, hb]
  simp
mutual
theorem deq_refl : ∀ (d : D) (n : Nat), dp n d = true → deq d d = true
  | .non, _, _ => rfl
  | .bl b, _, _ => by unfold deq; simp
  | .int i, _, _ => by unfold deq; simp
  | .str x, _, _ => by unfold deq; simp
  | .lst xs, n, h => by
    cases n with
    | zero => unfold dp at h; cases h
    | succ n => unfold dp at h; unfold deq; exact deqs_refl xs n h
  | .tup xs, n, h => by
    cases n with
    | zero => unfold dp at h; cases h
    | succ n => unfold dp at h; unfold deq; exact deqs_refl xs n h
  | .dic _, n, h => by unfold dp at h; cases h
  | .fn _, n, h => by unfold dp at h; cases h
  | .frz _, n, h => by unfold dp at h; cases h
theorem deqs_refl : ∀ (ds : List D) (n : Nat), dps n ds = true → deqs ds ds = true
  | [], _, _ => rfl
  | d :: ds, n, h => by
    unfold dps at h
    simp only [Bool.and_eq_true] at h
    unfold deqs
    simp [deq_refl d n h.1, deqs_refl ds n h.2]
end

theorem cut_tail (xs : List D) : cut xs (some 1) none = xs.drop 1 := by
  unfold cut six
  cases xs with
  | nil => rfl
  | cons x xs =>
    simp only [List.length_cons]
    rw [show (if (1 : Int) < 0 then (1 + ((xs.length + 1 : Nat) : Int)).toNat else min (1 : Int).toNat (xs.length + 1)) = 1 by rw [if_neg (by decide)]; simp]
    simp
theorem zipL_map {α β : Type} (f : α → D) (g : β → D) (xs : List α) (ys : List β) : zipL (xs.map f) (ys.map g) = (xs.zip ys).map fun q => D.tup [f q.1, g q.2] := by
  unfold zipL
  rw [List.zip_map, List.map_map]
  rfl
theorem mem_zipR {α : Type} {ys : List α} {q : Nat × α} (h : q ∈ (List.range ys.length).zip ys) : ys[q.1]? = some q.2 := by
  obtain ⟨i, hi, e⟩ := List.mem_iff_getElem.mp h
  rw [List.getElem_zip] at e
  rw [← e]
  simp at hi
  simp [hi]
theorem zipR_len {α : Type} (ys : List α) : ((List.range ys.length).zip ys).length = ys.length := by simp

theorem natL_int (l : List Nat) : l.map natD = intL (l.map fun w : Nat => (w : Int)) := by simp [intL]
theorem inO_natL (w : Nat) (l : List Nat) : inO (.int (w : Int)) (l.map natD) = some (decide (w ∈ l)) := by
  rw [natL_int, inO_intL]
  congr 1
  rw [decide_eq_decide, List.mem_map]
  exact ⟨fun ⟨a, h, e⟩ => by rw [show w = a by omega]; exact h, fun h => ⟨w, h, rfl⟩⟩
/-! ### sorting -/
def insN (x : Nat) : List Nat → List Nat
  | [] => [x]
  | y :: r => if x ≤ y then x :: y :: r else y :: insN x r
def sortN : List Nat → List Nat
  | [] => []
  | x :: r => insN x (sortN r)
theorem ins_nat (x : Nat) : ∀ l : List Nat, ins (x : Int) (l.map fun w : Nat => (w : Int)) = (insN x l).map fun w : Nat => (w : Int)
  | [] => rfl
  | y :: r => by
    show (if (x : Int) ≤ (y : Int) then _ else _) = _
    unfold insN
    by_cases h : x ≤ y
    · rw [if_pos h, if_pos (by omega)]
      rfl
    · rw [if_neg h, if_neg (by omega), ins_nat x r]
      rfl
theorem isort_nat : ∀ l : List Nat, isort (l.map fun w : Nat => (w : Int)) = (sortN l).map fun w : Nat => (w : Int)
  | [] => rfl
  | x :: r => by
    show ins (x : Int) (isort (r.map _)) = _
    rw [isort_nat r, ins_nat]
    rfl
theorem mem_insN {x z : Nat} : ∀ {l : List Nat}, z ∈ insN x l ↔ z = x ∨ z ∈ l
  | [] => by simp [insN]
  | y :: r => by
    unfold insN
    by_cases h : x ≤ y
    · rw [if_pos h]; simp
    · rw [if_neg h, List.mem_cons, mem_insN (l := r), List.mem_cons]
      constructor
      · rintro (h | h | h)
        · exact .inr (.inl h)
        · exact .inl h
        · exact .inr (.inr h)
      · rintro (h | h | h)
        · exact .inr (.inl h)
        · exact .inl h
        · exact .inr (.inr h)
theorem mem_sortN {z : Nat} : ∀ {l : List Nat}, z ∈ sortN l ↔ z ∈ l
  | [] => by simp [sortN]
  | x :: r => by
    show z ∈ insN x (sortN r) ↔ _
    rw [mem_insN, mem_sortN (l := r), List.mem_cons]
theorem insN_len (x : Nat) : ∀ l : List Nat, (insN x l).length = l.length + 1
  | [] => rfl
  | y :: r => by
    unfold insN
    split
    · rfl
    · simp [insN_len x r]
theorem sortN_len : ∀ l : List Nat, (sortN l).length = l.length
  | [] => rfl
  | x :: r => by
    show (insN x (sortN r)).length = _
    rw [insN_len, sortN_len r]
    rfl
theorem insN_asc {x : Nat} : ∀ {l : List Nat}, l.Pairwise (· < ·) → x ∉ l → (insN x l).Pairwise (· < ·)
  | [], _, _ => by simp [insN]
  | y :: r, h, hx => by
    obtain ⟨h1, h2⟩ := List.pairwise_cons.mp h
    unfold insN
    by_cases hxy : x ≤ y
    · rw [if_pos hxy]
      have hne : x ≠ y := fun e => hx (by rw [e]; exact List.mem_cons_self)
      refine List.pairwise_cons.mpr ⟨fun z hz => ?_, h⟩
      rcases List.mem_cons.mp hz with rfl | hz
      · omega
      · have := h1 z hz; omega
    · rw [if_neg hxy]
      refine List.pairwise_cons.mpr ⟨fun z hz => ?_, insN_asc h2 fun hm => hx (List.mem_cons_of_mem _ hm)⟩
      rcases mem_insN.mp hz with rfl | hz
      · omega
      · exact h1 z hz
theorem sortN_asc : ∀ {l : List Nat}, l.Nodup → (sortN l).Pairwise (· < ·)
  | [], _ => by simp [sortN]
  | x :: r, h => by
    obtain ⟨h1, h2⟩ := List.nodup_cons.mp h
    exact insN_asc (sortN_asc h2) fun hm => h1 (mem_sortN.mp hm)
theorem biD_sortN {l : List Nat} (h : l.length < 64) : biD .sorted [.lst (l.map natD)] = some (.lst ((sortN l).map natD)) := by
  show (dints (l.map natD)).bind _ = _
  rw [show l.map natD = l.map fun w : Nat => D.int ((fun w : Nat => (w : Int)) w) from rfl, dints_map]
  simp only [Option.bind_some, List.length_map]
  rw [if_pos h, isort_nat, ← natL_int]
/-! ### rows of bits, compared -/
theorem deqs_bits : ∀ a b : List Bool, deqs (a.map bitD) (b.map bitD) = decide (a = b)
  | [], [] => by simp [deqs]
  | [], _ :: _ => by simp [deqs]
  | _ :: _, [] => by simp [deqs]
  | x :: a, y :: b => by
    simp only [List.map_cons]
    unfold deqs
    rw [deqs_bits a b]
    cases x <;> cases y <;> simp [bitD, deq]
theorem dps_bits (n : Nat) : ∀ a : List Bool, dps n (a.map bitD) = true
  | [] => by simp [dps]
  | x :: a => by
    simp only [List.map_cons]
    unfold dps
    rw [dps_bits n a]
    unfold bitD dp
    rfl
theorem cmpD_bits (a b : List Bool) : cmpD .eq (.lst (a.map bitD)) (.lst (b.map bitD)) = some (decide (a = b)) := by
  rw [cmpD_eq_dp]
  · unfold deq; rw [deqs_bits]
  · unfold dp; exact dps_bits 59 a
  · unfold dp; exact dps_bits 59 b
theorem pow_toNat (k : Nat) : (1 : Int) * 2 ^ ((k : Int).toNat) = ((2 ^ k : Nat) : Int) := by simp

/-- the bit at a place -/
def bg (bits : List Bool) (w : Nat) : Bool := bits.getD w false
theorem bg_at {bits : List Bool} {w : Nat} (h : w < bits.length) : bits[w]? = some (bg bits w) := by
  unfold bg
  rw [List.getD_eq_getElem?_getD, List.getElem?_eq_getElem h]
  rfl
theorem subD_bgL {bits : List Bool} {w : Nat} (h : w < bits.length) : subD (.lst (bits.map bitD)) (.int (w : Nat)) = some (bitD (bg bits w)) := subD_lstM (bg_at h)
theorem subD_bgT {bits : List Bool} {w : Nat} (h : w < bits.length) : subD (.tup (bits.map bitD)) (.int (w : Nat)) = some (bitD (bg bits w)) := subD_tupM (bg_at h)
end BF

set_option maxRecDepth 100000
set_option maxHeartbeats 4000000
namespace BF.k00
open BF PySem
/- classes: 0 ForgeError(ValueError), 1 InvalidWord(ForgeError), 2 InvalidValues(ForgeError), 3 InvalidGates(ForgeError) -/
def i_is_whole : Nat := 0
def i_is_tuple_of : Nat := 1
def i_are_bits : Nat := 2
def i_is_node : Nat := 3
def i_is_gates : Nat := 4
def i_need_gates : Nat := 5
def i_edge_bit : Nat := 6
def i_all_bits : Nat := 7
def i_done : Nat := 8
def i_need_given : Nat := 9
def i_need_word : Nat := 10
def i_gates_step : Nat := 11
def i_gates_run : Nat := 12
def i_gates_bits : Nat := 13
def i__law_cup : Nat := 14
def i__law_roll : Nat := 15
def i__law_some : Nat := 16
def i__law_sort : Nat := 17
def i__law_like : Nat := 18
def i__law_gates : Nat := 19
def i__law_has : Nat := 20
def i__law_told : Nat := 21
def i__law_error : Nat := 22
def i__law_gates_right : Nat := 23
def i__law_great_right : Nat := 24
def i__law_limits_right : Nat := 25
def i_law : Nat := 26
def x_ForgeError : Nat := 0
def x_InvalidWord : Nat := 1
def x_InvalidValues : Nat := 2
def x_InvalidGates : Nat := 3
def b_is_whole : Ss := (Ss.cons (S.ret (E.and (E.bi Bi.isInt (Es.cons (E.var 0) Es.nil)) (E.and (E.not (E.bi Bi.isBool (Es.cons (E.var 0) Es.nil))) (E.chain Cm.le Cm.le (E.rv 1) (E.var 0) (E.rv 2)))))
  Ss.nil)
def f_is_whole : Fd := { ps := [Md.s, Md.b, Md.b], ns := 3, own := [], bor := [1, 2], fresh := false, hd := false, body := b_is_whole }
def b_is_tuple_of : Ss := (Ss.cons (S.ret (E.and (E.bi Bi.isTuple (Es.cons (E.rv 0) Es.nil)) (E.chain Cm.le Cm.le (E.rv 1) (E.bi Bi.len (Es.cons (E.rv 0) Es.nil)) (E.rv 2))))
  Ss.nil)
def f_is_tuple_of : Fd := { ps := [Md.b, Md.b, Md.b], ns := 3, own := [], bor := [0, 1, 2], fresh := false, hd := false, body := b_is_tuple_of }
def e_are_bits_1 : E := (E.call i_is_whole (Es.cons (E.var 2) (Es.cons (E.cst (D.int 0)) (Es.cons (E.cst (D.int 1)) Es.nil))))
def b_are_bits : Ss := (Ss.cons (S.ret (E.and (E.call i_is_tuple_of (Es.cons (E.var 0) (Es.cons (E.rv 1) (Es.cons (E.rv 1) Es.nil)))) (E.bi Bi.all (Es.cons (E.lc [2] e_are_bits_1 (T.var 2) (I.val (E.var 0)) Eo.none) Es.nil))))
  Ss.nil)
def f_are_bits : Fd := { ps := [Md.s, Md.b], ns := 3, own := [], bor := [1], fresh := false, hd := false, body := b_are_bits }
def b_is_node : Ss := (Ss.cons (S.ifs (E.or (E.not (E.call i_is_tuple_of (Es.cons (E.rv 0) (Es.cons (E.cst (D.int 2)) (Es.cons (E.cst (D.int 2)) Es.nil))))) (E.not (E.call i_is_whole (Es.cons (E.sub (E.rv 0) (E.cst (D.int 0))) (Es.cons (E.cst (D.int 0)) (Es.cons (E.bin Op2.sub (E.bin Op2.mul (E.cst (D.int 2)) (E.rv 1)) (E.cst (D.int 1))) Es.nil)))))) (Ss.cons (S.ret (E.cst (D.bl false)))
  Ss.nil) Ss.nil)
  (Ss.cons (S.ret (E.call i_is_whole (Es.cons (E.sub (E.rv 0) (E.cst (D.int 1))) (Es.cons (E.bin Op2.add (E.sub (E.rv 0) (E.cst (D.int 0))) (E.cst (D.int 1))) (Es.cons (E.bin Op2.sub (E.bin Op2.mul (E.cst (D.int 2)) (E.rv 1)) (E.cst (D.int 1))) Es.nil)))))
  Ss.nil))
def f_is_node : Fd := { ps := [Md.b, Md.b], ns := 2, own := [], bor := [0, 1], fresh := false, hd := false, body := b_is_node }
def e_is_gates_1 : E := (E.call i_is_whole (Es.cons (E.var 10) (Es.cons (E.cst (D.int 0)) (Es.cons (E.var 9) Es.nil))))
def e_is_gates_2 : E := (E.call i_is_node (Es.cons (E.var 8) (Es.cons (E.bin Op2.add (E.bin Op2.add (E.bin Op2.add (E.cst (D.int 1)) (E.var 1)) (E.var 2)) (E.var 7)) Es.nil)))
def b_is_gates : Ss := (Ss.cons (S.ifs (E.or (E.not (E.call i_is_tuple_of (Es.cons (E.var 0) (Es.cons (E.cst (D.int 6)) (Es.cons (E.cst (D.int 6)) Es.nil))))) (E.or (E.not (E.call i_is_whole (Es.cons (E.sub (E.var 0) (E.cst (D.int 0))) (Es.cons (E.cst (D.int 0)) (Es.cons (E.cst (D.int 8)) Es.nil))))) (E.not (E.call i_is_whole (Es.cons (E.sub (E.var 0) (E.cst (D.int 1))) (Es.cons (E.cst (D.int 0)) (Es.cons (E.cst (D.int 6)) Es.nil))))))) (Ss.cons (S.ret (E.cst (D.bl false)))
  Ss.nil) Ss.nil)
  (Ss.cons (S.asg (T.tup [(T.var 1), (T.var 2), (T.var 3), (T.var 4), (T.var 5), (T.var 6)]) (E.var 0))
  (Ss.cons (S.ifs (E.or (E.not (E.call i_are_bits (Es.cons (E.var 3) (Es.cons (E.var 2) Es.nil)))) (E.or (E.not (E.call i_is_tuple_of (Es.cons (E.var 4) (Es.cons (E.cst (D.int 0)) (Es.cons (E.cst (D.int 400)) Es.nil))))) (E.not (E.call i_is_tuple_of (Es.cons (E.var 5) (Es.cons (E.var 2) (Es.cons (E.var 2) Es.nil))))))) (Ss.cons (S.ret (E.cst (D.bl false)))
  Ss.nil) Ss.nil)
  (Ss.cons (S.ifs (E.not (E.bi Bi.all (Es.cons (E.lc [7, 8] e_is_gates_2 (T.tup [(T.var 7), (T.var 8)]) (I.enum (E.var 4)) Eo.none) Es.nil))) (Ss.cons (S.ret (E.cst (D.bl false)))
  Ss.nil) Ss.nil)
  (Ss.cons (S.asg (T.var 9) (E.bin Op2.sub (E.bin Op2.mul (E.cst (D.int 2)) (E.bin Op2.add (E.bin Op2.add (E.bin Op2.add (E.cst (D.int 1)) (E.var 1)) (E.var 2)) (E.bi Bi.len (Es.cons (E.var 4) Es.nil)))) (E.cst (D.int 1))))
  (Ss.cons (S.ret (E.and (E.call i_is_tuple_of (Es.cons (E.var 6) (Es.cons (E.cst (D.int 1)) (Es.cons (E.cst (D.int 16)) Es.nil)))) (E.bi Bi.all (Es.cons (E.lc [10] e_is_gates_1 (T.var 10) (I.val (E.bin Op2.add (E.var 5) (E.var 6))) Eo.none) Es.nil))))
  Ss.nil))))))
def f_is_gates : Fd := { ps := [Md.s], ns := 11, own := [], bor := [], fresh := false, hd := false, body := b_is_gates }
def b_need_gates : Ss := (Ss.cons (S.ifs (E.not (E.call i_is_gates (Es.cons (E.var 0) Es.nil))) (Ss.cons (S.raise x_InvalidGates)
  Ss.nil) Ss.nil)
  Ss.nil)
def f_need_gates : Fd := { ps := [Md.s], ns := 1, own := [], bor := [], fresh := false, hd := false, body := b_need_gates }
def b_edge_bit : Ss := (Ss.cons (S.ret (E.ite (E.cmp Cm.eq (E.bin Op2.mod (E.rv 1) (E.cst (D.int 2))) (E.cst (D.int 0))) (E.sub (E.rv 0) (E.bin Op2.fdiv (E.rv 1) (E.cst (D.int 2)))) (E.bin Op2.sub (E.cst (D.int 1)) (E.sub (E.rv 0) (E.bin Op2.fdiv (E.rv 1) (E.cst (D.int 2)))))))
  Ss.nil)
def f_edge_bit : Fd := { ps := [Md.b, Md.b], ns := 2, own := [], bor := [0, 1], fresh := false, hd := false, body := b_edge_bit }
def l_all_bits_1 : Ss := (Ss.cons (S.expr (E.mm Mm.append 3 (Es.cons (E.bin Op2.mul (E.call i_edge_bit (Es.cons (E.rv 3) (Es.cons (E.var 4) Es.nil))) (E.call i_edge_bit (Es.cons (E.rv 3) (Es.cons (E.var 5) Es.nil)))) Es.nil)))
  Ss.nil)
def b_all_bits : Ss := (Ss.cons (S.asgr 3 (E.bin Op2.add (E.bin Op2.add (E.lst (Es.cons (E.cst (D.int 0)) Es.nil)) (E.bi Bi.list (Es.cons (E.rv 1) Es.nil))) (E.bi Bi.list (Es.cons (E.rv 2) Es.nil))))
  (Ss.cons (S.for (T.tup [(T.var 4), (T.var 5)]) (I.val (E.sub (E.rv 0) (E.cst (D.int 3)))) l_all_bits_1)
  (Ss.cons (S.retr 3)
  Ss.nil)))
def f_all_bits : Fd := { ps := [Md.b, Md.b, Md.b], ns := 6, own := [3], bor := [0, 1, 2], fresh := true, hd := false, body := b_all_bits }
def e_done_1 : E := (E.call i_edge_bit (Es.cons (E.var 3) (Es.cons (E.var 4) Es.nil)))
def e_done_2 : E := (E.call i_edge_bit (Es.cons (E.var 3) (Es.cons (E.var 4) Es.nil)))
def b_done : Ss := (Ss.cons (S.asg (T.var 3) (E.call i_all_bits (Es.cons (E.rv 0) (Es.cons (E.rv 1) (Es.cons (E.rv 2) Es.nil)))))
  (Ss.cons (S.ret (E.tup (Es.cons (E.bi Bi.tuple (Es.cons (E.lc [4] e_done_1 (T.var 4) (I.val (E.sub (E.rv 0) (E.cst (D.int 5)))) Eo.none) Es.nil)) (Es.cons (E.bi Bi.tuple (Es.cons (E.lc [4] e_done_2 (T.var 4) (I.val (E.sub (E.rv 0) (E.cst (D.int 4)))) Eo.none) Es.nil)) Es.nil))))
  Ss.nil))
def f_done : Fd := { ps := [Md.b, Md.b, Md.b], ns := 5, own := [], bor := [0, 1, 2], fresh := false, hd := false, body := b_done }
def b_need_given : Ss := (Ss.cons (S.ifs (E.not (E.call i_are_bits (Es.cons (E.var 1) (Es.cons (E.rv 0) Es.nil)))) (Ss.cons (S.raise x_InvalidValues)
  Ss.nil) Ss.nil)
  Ss.nil)
def f_need_given : Fd := { ps := [Md.b, Md.s], ns := 2, own := [], bor := [0], fresh := false, hd := false, body := b_need_given }
def e_need_word_1 : E := (E.call i_are_bits (Es.cons (E.var 2) (Es.cons (E.rv 0) Es.nil)))
def b_need_word : Ss := (Ss.cons (S.ifs (E.or (E.not (E.call i_is_tuple_of (Es.cons (E.var 1) (Es.cons (E.cst (D.int 0)) (Es.cons (E.cst (D.int 200)) Es.nil))))) (E.not (E.bi Bi.all (Es.cons (E.lc [2] e_need_word_1 (T.var 2) (I.val (E.var 1)) Eo.none) Es.nil)))) (Ss.cons (S.raise x_InvalidWord)
  Ss.nil) Ss.nil)
  Ss.nil)
def f_need_word : Fd := { ps := [Md.b, Md.s], ns := 3, own := [], bor := [0], fresh := false, hd := false, body := b_need_word }
def b_gates_step : Ss := (Ss.cons (S.expr (E.call i_need_gates (Es.cons (E.var 0) Es.nil)))
  (Ss.cons (S.expr (E.call i_need_given (Es.cons (E.sub (E.var 0) (E.cst (D.int 0))) (Es.cons (E.var 1) Es.nil))))
  (Ss.cons (S.expr (E.call i_need_given (Es.cons (E.sub (E.var 0) (E.cst (D.int 1))) (Es.cons (E.var 2) Es.nil))))
  (Ss.cons (S.ret (E.call i_done (Es.cons (E.var 0) (Es.cons (E.var 1) (Es.cons (E.var 2) Es.nil)))))
  Ss.nil))))
def f_gates_step : Fd := { ps := [Md.s, Md.s, Md.s], ns := 3, own := [], bor := [], fresh := false, hd := false, body := b_gates_step }
def l_gates_run_1 : Ss := (Ss.cons (S.asg (T.tup [(T.var 5), (T.var 3)]) (E.call i_done (Es.cons (E.var 0) (Es.cons (E.var 4) (Es.cons (E.var 3) Es.nil)))))
  (Ss.cons (S.expr (E.mm Mm.append 2 (Es.cons (E.var 5) Es.nil)))
  Ss.nil))
def b_gates_run : Ss := (Ss.cons (S.expr (E.call i_need_gates (Es.cons (E.var 0) Es.nil)))
  (Ss.cons (S.expr (E.call i_need_word (Es.cons (E.sub (E.var 0) (E.cst (D.int 0))) (Es.cons (E.var 1) Es.nil))))
  (Ss.cons (S.par [(2, true), (3, false)] (Es.cons (E.lst Es.nil) (Es.cons (E.sub (E.var 0) (E.cst (D.int 2))) Es.nil)))
  (Ss.cons (S.for (T.var 4) (I.val (E.var 1)) l_gates_run_1)
  (Ss.cons (S.ret (E.bi Bi.tuple (Es.cons (E.rv 2) Es.nil)))
  Ss.nil)))))
def f_gates_run : Fd := { ps := [Md.s, Md.s], ns := 6, own := [2], bor := [], fresh := false, hd := false, body := b_gates_run }
def b_gates_bits : Ss := (Ss.cons (S.expr (E.call i_need_gates (Es.cons (E.var 0) Es.nil)))
  (Ss.cons (S.expr (E.call i_need_given (Es.cons (E.sub (E.var 0) (E.cst (D.int 0))) (Es.cons (E.var 1) Es.nil))))
  (Ss.cons (S.expr (E.call i_need_given (Es.cons (E.sub (E.var 0) (E.cst (D.int 1))) (Es.cons (E.var 2) Es.nil))))
  (Ss.cons (S.ret (E.bi Bi.tuple (Es.cons (E.call i_all_bits (Es.cons (E.var 0) (Es.cons (E.var 1) (Es.cons (E.var 2) Es.nil)))) Es.nil)))
  Ss.nil))))
def f_gates_bits : Fd := { ps := [Md.s, Md.s, Md.s], ns := 3, own := [], bor := [], fresh := false, hd := false, body := b_gates_bits }
def b__law_cup : Ss := (Ss.cons (S.asg (T.var 1) (E.bi Bi.abs (Es.cons (E.sub (E.bin Op2.add (E.bi Bi.list (Es.cons (E.rv 0) Es.nil)) (E.lst (Es.cons (E.cst (D.int 0)) Es.nil))) (E.cst (D.int 0))) Es.nil)))
  (Ss.cons (S.ret (E.lst (Es.cons (E.ite (E.cmp Cm.ge (E.var 1) (E.bin Op2.pow (E.cst (D.int 10)) (E.cst (D.int 18)))) (E.bin Op2.fdiv (E.var 1) (E.cst (D.int 257))) (E.cst (D.int 0))) (Es.cons (E.bin Op2.add (E.bin Op2.mod (E.bi Bi.int (Es.cons (E.bin Op2.add (E.bin Op2.mul (E.var 1) (E.cst (D.int 521))) (E.cst (D.int 7853))) Es.nil)) (E.cst (D.int 99829))) (E.cst (D.int 373))) Es.nil))))
  Ss.nil))
def f__law_cup : Fd := { ps := [Md.b], ns := 2, own := [], bor := [0], fresh := true, hd := false, body := b__law_cup }
def b__law_roll : Ss := (Ss.cons (S.ifs (E.cmp Cm.gt (E.sub (E.rv 0) (E.cst (D.int 0))) (E.cst (D.int 0))) (Ss.cons (S.asg (T.var 2) (E.bin Op2.mod (E.bi Bi.int (Es.cons (E.sub (E.rv 0) (E.cst (D.int 0))) Es.nil)) (E.rv 1)))
  (Ss.cons (S.seti 0 (E.cst (D.int 0)) (E.bin Op2.fdiv (E.sub (E.rv 0) (E.cst (D.int 0))) (E.rv 1)))
  (Ss.cons (S.ret (E.var 2))
  Ss.nil))) Ss.nil)
  (Ss.cons (S.seti 0 (E.cst (D.int 1)) (E.bin Op2.mod (E.bi Bi.int (Es.cons (E.bin Op2.add (E.bin Op2.mul (E.sub (E.rv 0) (E.cst (D.int 1))) (E.cst (D.int 139))) (E.cst (D.int 2543))) Es.nil)) (E.cst (D.int 99829))))
  (Ss.cons (S.ret (E.bin Op2.mod (E.bi Bi.int (Es.cons (E.bin Op2.fdiv (E.sub (E.rv 0) (E.cst (D.int 1))) (E.cst (D.int 53))) Es.nil)) (E.rv 1)))
  Ss.nil)))
def f__law_roll : Fd := { ps := [Md.m, Md.b], ns := 3, own := [0], bor := [1], fresh := false, hd := false, body := b__law_roll }
def b__law_some : Ss := (Ss.cons (S.ret (E.sub (E.rv 1) (E.call i__law_roll (Es.cons (E.rv 0) (Es.cons (E.bi Bi.len (Es.cons (E.rv 1) Es.nil)) Es.nil)))))
  Ss.nil)
def f__law_some : Fd := { ps := [Md.m, Md.b], ns := 2, own := [0], bor := [1], fresh := false, hd := false, body := b__law_some }
def b__law_sort : Ss := (Ss.cons (S.ifs (E.or (E.cmp Cm.is (E.rv 0) (E.cst D.non)) (E.bi Bi.isBool (Es.cons (E.rv 0) Es.nil))) (Ss.cons (S.ret (E.ite (E.cmp Cm.is (E.rv 0) (E.cst D.non)) (E.cst (D.int 0)) (E.cst (D.int 1))))
  Ss.nil) Ss.nil)
  (Ss.cons (S.ifs (E.or (E.bi Bi.isInt (Es.cons (E.rv 0) Es.nil)) (E.bi Bi.isStr (Es.cons (E.rv 0) Es.nil))) (Ss.cons (S.ret (E.ite (E.bi Bi.isInt (Es.cons (E.rv 0) Es.nil)) (E.cst (D.int 2)) (E.cst (D.int 3))))
  Ss.nil) Ss.nil)
  (Ss.cons (S.ret (E.ite (E.bi Bi.isTuple (Es.cons (E.rv 0) Es.nil)) (E.cst (D.int 4)) (E.ite (E.bi Bi.isList (Es.cons (E.rv 0) Es.nil)) (E.cst (D.int 5)) (E.cst (D.int 6)))))
  Ss.nil)))
def f__law_sort : Fd := { ps := [Md.b], ns := 1, own := [], bor := [0], fresh := false, hd := false, body := b__law_sort }
def e__law_like_1 : E := (E.cst (D.int 1))
def c__law_like_1 : Eo := (Eo.some (E.not (E.call i__law_like (Es.cons (E.var 3) (Es.cons (E.var 4) Es.nil)))))
def b__law_like : Ss := (Ss.cons (S.asg (T.var 2) (E.call i__law_sort (Es.cons (E.var 1) Es.nil)))
  (Ss.cons (S.ifs (E.or (E.cmp Cm.ne (E.call i__law_sort (Es.cons (E.var 0) Es.nil)) (E.var 2)) (E.cmp Cm.eq (E.var 2) (E.cst (D.int 6)))) (Ss.cons (S.ret (E.cst (D.bl false)))
  Ss.nil) Ss.nil)
  (Ss.cons (S.ifs (E.cmp Cm.isin (E.var 2) (E.tup (Es.cons (E.cst (D.int 4)) (Es.cons (E.cst (D.int 5)) Es.nil)))) (Ss.cons (S.ret (E.and (E.cmp Cm.eq (E.bi Bi.len (Es.cons (E.var 0) Es.nil)) (E.bi Bi.len (Es.cons (E.var 1) Es.nil))) (E.cmp Cm.eq (E.lc [3, 4] e__law_like_1 (T.tup [(T.var 3), (T.var 4)]) (I.zip (E.var 0) (E.var 1)) c__law_like_1) (E.lst Es.nil))))
  Ss.nil) Ss.nil)
  (Ss.cons (S.ret (E.cmp Cm.eq (E.var 0) (E.var 1)))
  Ss.nil))))
def f__law_like : Fd := { ps := [Md.s, Md.s], ns := 5, own := [], bor := [], fresh := false, hd := false, body := b__law_like }
def e__law_gates_1 : E := (E.call i__law_roll (Es.cons (E.rv 0) (Es.cons (E.cst (D.int 2)) Es.nil)))
def e__law_gates_2 : E := (E.call i__law_roll (Es.cons (E.rv 0) (Es.cons (E.var 5) Es.nil)))
def e__law_gates_3 : E := (E.call i__law_roll (Es.cons (E.rv 0) (Es.cons (E.var 5) Es.nil)))
def l__law_gates_4 : Ss := (Ss.cons (S.asg (T.var 5) (E.bin Op2.mul (E.cst (D.int 2)) (E.bin Op2.add (E.bin Op2.add (E.bin Op2.add (E.cst (D.int 1)) (E.var 1)) (E.var 2)) (E.var 4))))
  (Ss.cons (S.asg (T.var 6) (E.bi Bi.sorted (Es.cons (E.lst (Es.cons (E.call i__law_roll (Es.cons (E.rv 0) (Es.cons (E.var 5) Es.nil))) (Es.cons (E.call i__law_roll (Es.cons (E.rv 0) (Es.cons (E.var 5) Es.nil))) Es.nil))) Es.nil)))
  (Ss.cons (S.expr (E.mm Mm.append 3 (Es.cons (E.ite (E.cmp Cm.lt (E.sub (E.var 6) (E.cst (D.int 0))) (E.sub (E.var 6) (E.cst (D.int 1)))) (E.tup (Es.cons (E.sub (E.var 6) (E.cst (D.int 0))) (Es.cons (E.sub (E.var 6) (E.cst (D.int 1))) Es.nil))) (E.tup (Es.cons (E.cst (D.int 0)) (Es.cons (E.cst (D.int 1)) Es.nil)))) Es.nil)))
  Ss.nil)))
def b__law_gates : Ss := (Ss.cons (S.par [(1, false), (2, false), (3, true)] (Es.cons (E.call i__law_roll (Es.cons (E.rv 0) (Es.cons (E.cst (D.int 4)) Es.nil))) (Es.cons (E.call i__law_roll (Es.cons (E.rv 0) (Es.cons (E.cst (D.int 4)) Es.nil))) (Es.cons (E.lst Es.nil) Es.nil))))
  (Ss.cons (S.for (T.var 4) (I.rng1 (E.call i__law_roll (Es.cons (E.rv 0) (Es.cons (E.cst (D.int 13)) Es.nil)))) l__law_gates_4)
  (Ss.cons (S.asg (T.var 5) (E.bin Op2.mul (E.cst (D.int 2)) (E.bin Op2.add (E.bin Op2.add (E.bin Op2.add (E.cst (D.int 1)) (E.var 1)) (E.var 2)) (E.bi Bi.len (Es.cons (E.rv 3) Es.nil)))))
  (Ss.cons (S.asg (T.var 7) (E.bi Bi.tuple (Es.cons (E.lc [8] e__law_gates_3 (T.var 8) (I.rng1 (E.var 2)) Eo.none) Es.nil)))
  (Ss.cons (S.asg (T.var 9) (E.bi Bi.tuple (Es.cons (E.lc [10] e__law_gates_2 (T.var 10) (I.rng1 (E.bin Op2.add (E.cst (D.int 1)) (E.call i__law_roll (Es.cons (E.rv 0) (Es.cons (E.cst (D.int 4)) Es.nil))))) Eo.none) Es.nil)))
  (Ss.cons (S.ret (E.tup (Es.cons (E.var 1) (Es.cons (E.var 2) (Es.cons (E.bi Bi.tuple (Es.cons (E.lc [8] e__law_gates_1 (T.var 8) (I.rng1 (E.var 2)) Eo.none) Es.nil)) (Es.cons (E.bi Bi.tuple (Es.cons (E.rv 3) Es.nil)) (Es.cons (E.var 7) (Es.cons (E.var 9) Es.nil))))))))
  Ss.nil))))))
def f__law_gates : Fd := { ps := [Md.m], ns := 11, own := [0, 3], bor := [], fresh := false, hd := false, body := b__law_gates }
def b__law_has : Ss := (Ss.cons (S.par [(5, false), (6, false)] (Es.cons (E.bin Op2.fdiv (E.rv 3) (E.cst (D.int 2))) (Es.cons (E.cmp Cm.eq (E.bin Op2.mod (E.rv 3) (E.cst (D.int 2))) (E.cst (D.int 1))) Es.nil)))
  (Ss.cons (S.ifs (E.cmp Cm.notin (E.var 5) (E.rv 4)) (Ss.cons (S.asg (T.tup [(T.var 7), (T.var 8), (T.var 9), (T.var 10), (T.var 11), (T.var 12)]) (E.var 0))
  (Ss.cons (S.ifs (E.cmp Cm.le (E.var 5) (E.bin Op2.add (E.var 7) (E.var 8))) (Ss.cons (S.seti 4 (E.var 5) (E.and (E.cmp Cm.gt (E.var 5) (E.cst (D.int 0))) (E.cmp Cm.eq (E.sub (E.bin Op2.add (E.rv 1) (E.rv 2)) (E.bin Op2.sub (E.var 5) (E.cst (D.int 1)))) (E.cst (D.int 1)))))
  Ss.nil) (Ss.cons (S.asg (T.tup [(T.var 13), (T.var 14)]) (E.sub (E.var 10) (E.bin Op2.sub (E.bin Op2.sub (E.bin Op2.sub (E.var 5) (E.cst (D.int 1))) (E.var 7)) (E.var 8))))
  (Ss.cons (S.seti 4 (E.var 5) (E.and (E.call i__law_has (Es.cons (E.var 0) (Es.cons (E.rv 1) (Es.cons (E.rv 2) (Es.cons (E.var 13) (Es.cons (E.rv 4) Es.nil)))))) (E.call i__law_has (Es.cons (E.var 0) (Es.cons (E.rv 1) (Es.cons (E.rv 2) (Es.cons (E.var 14) (Es.cons (E.rv 4) Es.nil))))))))
  Ss.nil)))
  Ss.nil)) Ss.nil)
  (Ss.cons (S.ret (E.cmp Cm.ne (E.sub (E.rv 4) (E.var 5)) (E.var 6)))
  Ss.nil)))
def f__law_has : Fd := { ps := [Md.s, Md.b, Md.b, Md.b, Md.m], ns := 15, own := [4], bor := [1, 2, 3], fresh := false, hd := false, body := b__law_has }
def e__law_told_1 : E := (E.ite (E.call i__law_has (Es.cons (E.var 0) (Es.cons (E.rv 1) (Es.cons (E.rv 2) (Es.cons (E.var 5) (Es.cons (E.rv 3) Es.nil)))))) (E.cst (D.int 1)) (E.cst (D.int 0)))
def e__law_told_2 : E := (E.ite (E.call i__law_has (Es.cons (E.var 0) (Es.cons (E.rv 1) (Es.cons (E.rv 2) (Es.cons (E.var 5) (Es.cons (E.rv 3) Es.nil)))))) (E.cst (D.int 1)) (E.cst (D.int 0)))
def b__law_told : Ss := (Ss.cons (S.asgr 3 (E.dic Es.nil Es.nil))
  (Ss.cons (S.asg (T.var 4) (E.bi Bi.tuple (Es.cons (E.lc [5] e__law_told_2 (T.var 5) (I.val (E.sub (E.var 0) (E.cst (D.int 5)))) Eo.none) Es.nil)))
  (Ss.cons (S.ret (E.tup (Es.cons (E.var 4) (Es.cons (E.bi Bi.tuple (Es.cons (E.lc [5] e__law_told_1 (T.var 5) (I.val (E.sub (E.var 0) (E.cst (D.int 4)))) Eo.none) Es.nil)) Es.nil))))
  Ss.nil)))
def f__law_told : Fd := { ps := [Md.s, Md.b, Md.b], ns := 6, own := [3], bor := [1, 2], fresh := false, hd := false, body := b__law_told }
def e__law_error_1 : E := (E.var 3)
def c__law_error_1 : Eo := (Eo.some (E.var 4))
def b__law_error : Ss := (Ss.cons (S.tryx (Ss.cons S.acts
  Ss.nil) x_ForgeError (some 1) (Ss.cons (S.asg (T.var 2) (E.lst (Es.cons (E.tup (Es.cons (E.cst (D.str ⟨#[103, 97, 116, 101, 115]⟩)) (Es.cons (E.isx 1 x_InvalidGates) Es.nil))) (Es.cons (E.tup (Es.cons (E.cst (D.str ⟨#[118, 97, 108, 117, 101, 115]⟩)) (Es.cons (E.isx 1 x_InvalidValues) Es.nil))) (Es.cons (E.tup (Es.cons (E.cst (D.str ⟨#[119, 111, 114, 100]⟩)) (Es.cons (E.isx 1 x_InvalidWord) Es.nil))) Es.nil)))))
  (Ss.cons (S.ret (E.mt Mt.join (E.cst (D.str ⟨#[]⟩)) (Es.cons (E.lc [3, 4] e__law_error_1 (T.tup [(T.var 3), (T.var 4)]) (I.lst (E.var 2)) c__law_error_1) Es.nil)))
  Ss.nil)))
  (Ss.cons (S.ret (E.cst (D.str ⟨#[110, 111, 110, 101]⟩)))
  Ss.nil))
def f__law_error : Fd := { ps := [Md.b], ns := 5, own := [], bor := [0], fresh := false, hd := true, body := b__law_error }
def l__law_gates_right_1 : Ss := (Ss.cons (S.asg (T.tup [(T.var 14), (T.var 7)]) (E.call i__law_told (Es.cons (E.var 1) (Es.cons (E.var 5) (Es.cons (E.var 7) Es.nil)))))
  (Ss.cons (S.expr (E.mm Mm.append 13 (Es.cons (E.var 14) Es.nil)))
  Ss.nil))
def e__law_gates_right_2 : E := (E.call i__law_roll (Es.cons (E.rv 0) (Es.cons (E.cst (D.int 2)) Es.nil)))
def e__law_gates_right_3 : E := (E.bi Bi.tuple (Es.cons (E.lc [6] e__law_gates_right_2 (T.var 6) (I.rng1 (E.var 2)) Eo.none) Es.nil))
def e__law_gates_right_4 : E := (E.ite (E.call i__law_has (Es.cons (E.var 1) (Es.cons (E.var 5) (Es.cons (E.var 7) (Es.cons (E.bin Op2.mul (E.cst (D.int 2)) (E.var 10)) (Es.cons (E.rv 8) Es.nil)))))) (E.cst (D.int 1)) (E.cst (D.int 0)))
def e__law_gates_right_5 : E := (E.call i__law_roll (Es.cons (E.rv 0) (Es.cons (E.cst (D.int 2)) Es.nil)))
def e__law_gates_right_6 : E := (E.call i__law_roll (Es.cons (E.rv 0) (Es.cons (E.cst (D.int 2)) Es.nil)))
def l__law_gates_right_7 : Ss := (Ss.cons (S.asg (T.var 5) (E.bi Bi.tuple (Es.cons (E.lc [6] e__law_gates_right_6 (T.var 6) (I.rng1 (E.var 2)) Eo.none) Es.nil)))
  (Ss.cons (S.asg (T.var 7) (E.bi Bi.tuple (Es.cons (E.lc [6] e__law_gates_right_5 (T.var 6) (I.rng1 (E.var 3)) Eo.none) Es.nil)))
  (Ss.cons (S.asgr 8 (E.dic Es.nil Es.nil))
  (Ss.cons (S.asg (T.var 9) (E.bi Bi.tuple (Es.cons (E.lc [10] e__law_gates_right_4 (T.var 10) (I.rng1 (E.bin Op2.add (E.bin Op2.add (E.bin Op2.add (E.cst (D.int 1)) (E.var 2)) (E.var 3)) (E.bi Bi.len (Es.cons (E.sub (E.var 1) (E.cst (D.int 3))) Es.nil)))) Eo.none) Es.nil)))
  (Ss.cons (S.ifs (E.not (E.call i__law_like (Es.cons (E.lst (Es.cons (E.call i_gates_step (Es.cons (E.var 1) (Es.cons (E.var 5) (Es.cons (E.var 7) Es.nil)))) (Es.cons (E.call i_gates_bits (Es.cons (E.var 1) (Es.cons (E.var 5) (Es.cons (E.var 7) Es.nil)))) Es.nil))) (Es.cons (E.lst (Es.cons (E.call i__law_told (Es.cons (E.var 1) (Es.cons (E.var 5) (Es.cons (E.var 7) Es.nil)))) (Es.cons (E.var 9) Es.nil))) Es.nil)))) (Ss.cons (S.ret (E.cst (D.bl false)))
  Ss.nil) Ss.nil)
  Ss.nil)))))
def b__law_gates_right : Ss := (Ss.cons (S.asg (T.var 1) (E.call i__law_gates (Es.cons (E.rv 0) Es.nil)))
  (Ss.cons (S.asg (T.tup [(T.var 2), (T.var 3)]) (E.tup (Es.cons (E.sub (E.var 1) (E.cst (D.int 0))) (Es.cons (E.sub (E.var 1) (E.cst (D.int 1))) Es.nil))))
  (Ss.cons (S.ifs (E.not (E.call i__law_like (Es.cons (E.call i_is_gates (Es.cons (E.var 1) Es.nil)) (Es.cons (E.cst (D.bl true)) Es.nil)))) (Ss.cons (S.ret (E.cst (D.bl false)))
  Ss.nil) Ss.nil)
  (Ss.cons (S.for (T.var 4) (I.rng1 (E.cst (D.int 4))) l__law_gates_right_7)
  (Ss.cons (S.asg (T.var 11) (E.bi Bi.tuple (Es.cons (E.lc [12] e__law_gates_right_3 (T.var 12) (I.rng1 (E.call i__law_roll (Es.cons (E.rv 0) (Es.cons (E.cst (D.int 8)) Es.nil)))) Eo.none) Es.nil)))
  (Ss.cons (S.par [(13, true), (7, false)] (Es.cons (E.lst Es.nil) (Es.cons (E.sub (E.var 1) (E.cst (D.int 2))) Es.nil)))
  (Ss.cons (S.for (T.var 5) (I.val (E.var 11)) l__law_gates_right_1)
  (Ss.cons (S.asg (T.var 15) (E.sl (E.var 11) Eo.none (Eo.some (E.call i__law_roll (Es.cons (E.rv 0) (Es.cons (E.bin Op2.add (E.bi Bi.len (Es.cons (E.var 11) Es.nil)) (E.cst (D.int 1))) Es.nil))))))
  (Ss.cons (S.ret (E.call i__law_like (Es.cons (E.lst (Es.cons (E.call i_gates_run (Es.cons (E.var 1) (Es.cons (E.var 11) Es.nil))) (Es.cons (E.call i_gates_run (Es.cons (E.var 1) (Es.cons (E.var 15) Es.nil))) Es.nil))) (Es.cons (E.lst (Es.cons (E.bi Bi.tuple (Es.cons (E.rv 13) Es.nil)) (Es.cons (E.bi Bi.tuple (Es.cons (E.sl (E.rv 13) Eo.none (Eo.some (E.bi Bi.len (Es.cons (E.var 15) Es.nil)))) Es.nil)) Es.nil))) Es.nil))))
  Ss.nil)))))))))
def f__law_gates_right : Fd := { ps := [Md.m], ns := 16, own := [0, 8, 13], bor := [], fresh := false, hd := false, body := b__law_gates_right }
def e__law_great_right_1 : E := (E.call i__law_some (Es.cons (E.rv 0) (Es.cons (E.lst (Es.cons (E.cst (D.int 1)) (Es.cons (E.cst (D.int 1)) (Es.cons (E.cst (D.int 1)) (Es.cons (E.cst (D.int 0)) Es.nil))))) Es.nil)))
def l__law_great_right_2 : Ss := (Ss.cons (S.expr (E.mm Mm.append 17 (Es.cons (E.bi Bi.tuple (Es.cons (E.bi Bi.sorted (Es.cons (E.lst (Es.cons (E.bin Op2.mul (E.cst (D.int 2)) (E.bin Op2.add (E.cst (D.int 1)) (E.bin Op2.mod (E.var 18) (E.var 16)))) (Es.cons (E.bin Op2.mul (E.cst (D.int 2)) (E.bin Op2.add (E.var 16) (E.var 18))) Es.nil))) Es.nil)) Es.nil)) Es.nil)))
  Ss.nil)
def e__law_great_right_3 : E := (E.bin Op2.band (E.bin Op2.shr (E.bin Op2.add (E.var 10) (E.var 15)) (E.var 7)) (E.cst (D.int 1)))
def l__law_great_right_4 : Ss := (Ss.cons (S.expr (E.mm Mm.append 14 (Es.cons (E.bi Bi.tuple (Es.cons (E.lc [7] e__law_great_right_3 (T.var 7) (I.rng1 (E.var 1)) Eo.none) Es.nil)) Es.nil)))
  Ss.nil)
def e__law_great_right_5 : E := (E.bin Op2.add (E.cst (D.int 2)) (E.bin Op2.mul (E.cst (D.int 2)) (E.var 7)))
def e__law_great_right_6 : E := (E.bin Op2.band (E.bin Op2.shr (E.var 10) (E.var 7)) (E.cst (D.int 1)))
def l__law_great_right_7 : Ss := (Ss.cons (S.asg (T.var 8) (E.bin Op2.mul (E.cst (D.int 2)) (E.bin Op2.add (E.cst (D.int 1)) (E.var 7))))
  (Ss.cons (S.asg (T.var 9) (E.lst (Es.cons (E.bi Bi.tuple (Es.cons (E.bi Bi.sorted (Es.cons (E.lst (Es.cons (E.var 8) (Es.cons (E.var 4) Es.nil))) Es.nil)) Es.nil)) (Es.cons (E.bi Bi.tuple (Es.cons (E.bi Bi.sorted (Es.cons (E.lst (Es.cons (E.bin Op2.add (E.var 8) (E.cst (D.int 1))) (Es.cons (E.bin Op2.bxor (E.var 4) (E.cst (D.int 1))) Es.nil))) Es.nil)) Es.nil)) Es.nil))))
  (Ss.cons (S.asg (T.var 3) (E.bin Op2.add (E.bin Op2.add (E.var 3) (E.var 9)) (E.lst (Es.cons (E.tup (Es.cons (E.bin Op2.add (E.bin Op2.mul (E.cst (D.int 2)) (E.var 6)) (E.cst (D.int 1))) (Es.cons (E.bin Op2.add (E.bin Op2.mul (E.cst (D.int 2)) (E.var 6)) (E.cst (D.int 3))) Es.nil))) Es.nil))))
  (Ss.cons (S.expr (E.mm Mm.append 5 (Es.cons (E.bin Op2.add (E.bin Op2.mul (E.cst (D.int 2)) (E.var 6)) (E.cst (D.int 4))) Es.nil)))
  (Ss.cons (S.par [(4, false), (6, false)] (Es.cons (E.bin Op2.mul (E.cst (D.int 2)) (E.var 6)) (Es.cons (E.bin Op2.add (E.var 6) (E.cst (D.int 3))) Es.nil)))
  Ss.nil)))))
def b__law_great_right : Ss := (Ss.cons (S.par [(1, false), (2, false)] (Es.cons (E.bin Op2.add (E.cst (D.int 1)) (E.call i__law_roll (Es.cons (E.rv 0) (Es.cons (E.cst (D.int 6)) Es.nil)))) (Es.cons (E.call i__law_roll (Es.cons (E.rv 0) (Es.cons (E.cst (D.int 64)) Es.nil))) Es.nil)))
  (Ss.cons (S.par [(3, false), (4, false), (5, true), (6, false)] (Es.cons (E.lst Es.nil) (Es.cons (E.cst (D.int 1)) (Es.cons (E.lst Es.nil) (Es.cons (E.bin Op2.add (E.cst (D.int 1)) (E.var 1)) Es.nil)))))
  (Ss.cons (S.for (T.var 7) (I.rng1 (E.var 1)) l__law_great_right_7)
  (Ss.cons (S.asg (T.var 10) (E.bin Op2.mod (E.var 2) (E.bin Op2.shl (E.cst (D.int 1)) (E.var 1))))
  (Ss.cons (S.asg (T.var 11) (E.bi Bi.tuple (Es.cons (E.lc [7] e__law_great_right_6 (T.var 7) (I.rng1 (E.var 1)) Eo.none) Es.nil)))
  (Ss.cons (S.asg (T.var 12) (E.tup (Es.cons (E.cst (D.int 0)) (Es.cons (E.var 1) (Es.cons (E.var 11) (Es.cons (E.bi Bi.tuple (Es.cons (E.var 3) Es.nil)) (Es.cons (E.bi Bi.tuple (Es.cons (E.rv 5) Es.nil)) (Es.cons (E.bi Bi.tuple (Es.cons (E.lc [7] e__law_great_right_5 (T.var 7) (I.rng1 (E.var 1)) Eo.none) Es.nil)) Es.nil))))))))
  (Ss.cons (S.asg (T.var 13) (E.call i__law_some (Es.cons (E.rv 0) (Es.cons (E.lst (Es.cons (E.cst (D.int 0)) (Es.cons (E.cst (D.int 1)) (Es.cons (E.cst (D.int 2)) (Es.cons (E.cst (D.int 65)) (Es.cons (E.cst (D.int 200)) Es.nil)))))) Es.nil))))
  (Ss.cons (S.asgr 14 (E.lst Es.nil))
  (Ss.cons (S.for (T.var 15) (I.rng1 (E.var 13)) l__law_great_right_4)
  (Ss.cons (S.ifs (E.not (E.call i__law_like (Es.cons (E.lst (Es.cons (E.call i_is_gates (Es.cons (E.var 12) Es.nil)) (Es.cons (E.call i_gates_run (Es.cons (E.var 12) (Es.cons (E.bin Op2.mul (E.tup (Es.cons (E.tup Es.nil) Es.nil)) (E.var 13)) Es.nil))) Es.nil))) (Es.cons (E.lst (Es.cons (E.cst (D.bl true)) (Es.cons (E.bi Bi.tuple (Es.cons (E.rv 14) Es.nil)) Es.nil))) Es.nil)))) (Ss.cons (S.ret (E.cst (D.bl false)))
  Ss.nil) Ss.nil)
  (Ss.cons (S.par [(16, false), (17, true)] (Es.cons (E.bin Op2.add (E.cst (D.int 2)) (E.call i__law_roll (Es.cons (E.rv 0) (Es.cons (E.cst (D.int 7)) Es.nil)))) (Es.cons (E.lst (Es.cons (E.tup (Es.cons (E.cst (D.int 2)) (Es.cons (E.cst (D.int 4)) Es.nil))) Es.nil)) Es.nil)))
  (Ss.cons (S.for (T.var 18) (I.rng2 (E.cst (D.int 1)) (E.cst (D.int 400))) l__law_great_right_2)
  (Ss.cons (S.asg (T.var 19) (E.tup (Es.cons (E.var 16) (Es.cons (E.cst (D.int 0)) (Es.cons (E.tup Es.nil) (Es.cons (E.bi Bi.tuple (Es.cons (E.rv 17) Es.nil)) (Es.cons (E.tup Es.nil) (Es.cons (E.tup (Es.cons (E.bin Op2.mul (E.cst (D.int 2)) (E.bin Op2.add (E.var 16) (E.cst (D.int 400)))) (Es.cons (E.bin Op2.add (E.bin Op2.mul (E.cst (D.int 2)) (E.bin Op2.add (E.var 16) (E.cst (D.int 400)))) (E.cst (D.int 1))) Es.nil))) Es.nil))))))))
  (Ss.cons (S.asg (T.var 20) (E.bi Bi.tuple (Es.cons (E.lc [6] e__law_great_right_1 (T.var 6) (I.rng1 (E.var 16)) Eo.none) Es.nil)))
  (Ss.cons (S.asg (T.var 21) (E.ite (E.cmp Cm.eq (E.bi Bi.sum (Es.cons (E.var 20) Es.nil)) (E.var 16)) (E.cst (D.int 1)) (E.cst (D.int 0))))
  (Ss.cons (S.ret (E.call i__law_like (Es.cons (E.lst (Es.cons (E.call i_is_gates (Es.cons (E.var 19) Es.nil)) (Es.cons (E.call i_gates_step (Es.cons (E.var 19) (Es.cons (E.var 20) (Es.cons (E.tup Es.nil) Es.nil)))) Es.nil))) (Es.cons (E.lst (Es.cons (E.cst (D.bl true)) (Es.cons (E.tup (Es.cons (E.tup (Es.cons (E.var 21) (Es.cons (E.bin Op2.sub (E.cst (D.int 1)) (E.var 21)) Es.nil))) (Es.cons (E.tup Es.nil) Es.nil))) Es.nil))) Es.nil))))
  Ss.nil))))))))))))))))
def f__law_great_right : Fd := { ps := [Md.m], ns := 22, own := [0, 5, 14, 17], bor := [], fresh := false, hd := false, body := b__law_great_right }
def l__law_limits_right_1 : Ss := (Ss.cons (S.asg (T.var 5) (E.bin Op2.add (E.var 5) (E.lst (Es.cons (E.lam i__law_error (E.call i_gates_run (Es.cons (E.var 1) (Es.cons (E.var 10) Es.nil)))) Es.nil))))
  Ss.nil)
def l__law_limits_right_2 : Ss := (Ss.cons (S.asg (T.var 5) (E.bin Op2.add (E.var 5) (E.lst (Es.cons (E.lam i__law_error (E.cal 7 (Es.cons (E.var 1) (Es.cons (E.tup (Es.cons (E.cst (D.int 0)) (Es.cons (E.cst (D.int 0)) Es.nil))) (Es.cons (E.var 9) Es.nil))))) Es.nil))))
  Ss.nil)
def l__law_limits_right_3 : Ss := (Ss.cons (S.asg (T.var 5) (E.bin Op2.add (E.var 5) (E.lst (Es.cons (E.lam i__law_error (E.cal 7 (Es.cons (E.var 1) (Es.cons (E.var 8) (Es.cons (E.cst D.non) Es.nil))))) Es.nil))))
  Ss.nil)
def l__law_limits_right_4 : Ss := (Ss.cons (S.asg (T.var 5) (E.bin Op2.add (E.var 5) (E.lst (Es.cons (E.lam i__law_error (E.cal 7 (Es.cons (E.var 6) (Es.cons (E.cst D.non) (Es.cons (E.cst D.non) Es.nil))))) Es.nil))))
  (Ss.cons (S.for (T.var 8) (I.val (E.tup (Es.cons (E.cst D.non) (Es.cons (E.tup (Es.cons (E.cst (D.int 0)) Es.nil)) (Es.cons (E.tup (Es.cons (E.cst (D.int 0)) (Es.cons (E.cst (D.int 0)) (Es.cons (E.cst (D.int 0)) Es.nil)))) (Es.cons (E.tup (Es.cons (E.cst (D.int 0)) (Es.cons (E.cst (D.int 2)) Es.nil))) (Es.cons (E.lst (Es.cons (E.cst (D.int 0)) (Es.cons (E.cst (D.int 0)) Es.nil))) (Es.cons (E.tup (Es.cons (E.cst (D.int 0)) (Es.cons (E.cst (D.bl true)) Es.nil))) (Es.cons (E.cst (D.int 0)) Es.nil))))))))) l__law_limits_right_3)
  (Ss.cons (S.for (T.var 9) (I.val (E.tup (Es.cons (E.cst D.non) (Es.cons (E.tup Es.nil) (Es.cons (E.tup (Es.cons (E.cst (D.int 0)) (Es.cons (E.cst (D.int 0)) Es.nil))) (Es.cons (E.tup (Es.cons (E.cst (D.int 2)) Es.nil)) (Es.cons (E.lst (Es.cons (E.cst (D.int 0)) Es.nil)) (Es.cons (E.tup (Es.cons (E.cst (D.bl true)) Es.nil)) Es.nil)))))))) l__law_limits_right_2)
  Ss.nil)))
def e__law_limits_right_5 : E := (E.call i_is_gates (Es.cons (E.var 4) Es.nil))
def b__law_limits_right : Ss := (Ss.cons (S.asg (T.var 1) (E.tup (Es.cons (E.cst (D.int 2)) (Es.cons (E.cst (D.int 1)) (Es.cons (E.tup (Es.cons (E.cst (D.int 0)) Es.nil)) (Es.cons (E.tup (Es.cons (E.tup (Es.cons (E.cst (D.int 2)) (Es.cons (E.cst (D.int 4)) Es.nil))) (Es.cons (E.tup (Es.cons (E.cst (D.int 3)) (Es.cons (E.cst (D.int 5)) Es.nil))) (Es.cons (E.tup (Es.cons (E.cst (D.int 9)) (Es.cons (E.cst (D.int 11)) Es.nil))) (Es.cons (E.tup (Es.cons (E.cst (D.int 6)) (Es.cons (E.cst (D.int 12)) Es.nil))) (Es.cons (E.tup (Es.cons (E.cst (D.int 7)) (Es.cons (E.cst (D.int 13)) Es.nil))) (Es.cons (E.tup (Es.cons (E.cst (D.int 15)) (Es.cons (E.cst (D.int 17)) Es.nil))) Es.nil))))))) (Es.cons (E.tup (Es.cons (E.cst (D.int 18)) Es.nil)) (Es.cons (E.tup (Es.cons (E.cst (D.int 6)) (Es.cons (E.cst (D.int 13)) Es.nil))) Es.nil))))))))
  (Ss.cons (S.asg (T.var 2) (E.lst (Es.cons (E.cst D.non) (Es.cons (E.tup Es.nil) (Es.cons (E.sl (E.var 1) Eo.none (Eo.some (E.cst (D.int 5)))) (Es.cons (E.bin Op2.add (E.var 1) (E.tup (Es.cons (E.cst (D.int 0)) Es.nil))) (Es.cons (E.bi Bi.list (Es.cons (E.var 1) Es.nil)) (Es.cons (E.tup (Es.cons (E.cst (D.int 9)) (Es.cons (E.cst (D.int 0)) (Es.cons (E.tup Es.nil) (Es.cons (E.tup Es.nil) (Es.cons (E.tup Es.nil) (Es.cons (E.tup (Es.cons (E.cst (D.int 0)) Es.nil)) Es.nil))))))) (Es.cons (E.tup (Es.cons (E.cst (D.int 0)) (Es.cons (E.cst (D.int 7)) (Es.cons (E.bin Op2.mul (E.tup (Es.cons (E.cst (D.int 0)) Es.nil)) (E.cst (D.int 7))) (Es.cons (E.tup Es.nil) (Es.cons (E.bin Op2.mul (E.tup (Es.cons (E.cst (D.int 0)) Es.nil)) (E.cst (D.int 7))) (Es.cons (E.tup (Es.cons (E.cst (D.int 0)) Es.nil)) Es.nil))))))) (Es.cons (E.tup (Es.cons (E.neg (E.cst (D.int 1))) (Es.cons (E.cst (D.int 0)) (Es.cons (E.tup Es.nil) (Es.cons (E.tup Es.nil) (Es.cons (E.tup Es.nil) (Es.cons (E.tup (Es.cons (E.cst (D.int 0)) Es.nil)) Es.nil))))))) (Es.cons (E.tup (Es.cons (E.cst (D.bl true)) (Es.cons (E.cst (D.int 0)) (Es.cons (E.tup Es.nil) (Es.cons (E.tup Es.nil) (Es.cons (E.tup Es.nil) (Es.cons (E.tup (Es.cons (E.cst (D.int 0)) Es.nil)) Es.nil))))))) (Es.cons (E.cst (D.int 0)) Es.nil))))))))))))
  (Ss.cons (S.asg (T.var 2) (E.bin Op2.add (E.var 2) (E.lst (Es.cons (E.tup (Es.cons (E.cst (D.int 0)) (Es.cons (E.cst (D.int 1)) (Es.cons (E.tup Es.nil) (Es.cons (E.tup Es.nil) (Es.cons (E.tup (Es.cons (E.cst (D.int 0)) Es.nil)) (Es.cons (E.tup (Es.cons (E.cst (D.int 0)) Es.nil)) Es.nil))))))) (Es.cons (E.tup (Es.cons (E.cst (D.int 0)) (Es.cons (E.cst (D.int 1)) (Es.cons (E.tup (Es.cons (E.cst (D.int 2)) Es.nil)) (Es.cons (E.tup Es.nil) (Es.cons (E.tup (Es.cons (E.cst (D.int 0)) Es.nil)) (Es.cons (E.tup (Es.cons (E.cst (D.int 0)) Es.nil)) Es.nil))))))) (Es.cons (E.tup (Es.cons (E.cst (D.int 0)) (Es.cons (E.cst (D.int 1)) (Es.cons (E.tup (Es.cons (E.cst (D.int 0)) Es.nil)) (Es.cons (E.tup Es.nil) (Es.cons (E.tup Es.nil) (Es.cons (E.tup (Es.cons (E.cst (D.int 0)) Es.nil)) Es.nil))))))) (Es.cons (E.tup (Es.cons (E.cst (D.int 0)) (Es.cons (E.cst (D.int 0)) (Es.cons (E.tup Es.nil) (Es.cons (E.tup Es.nil) (Es.cons (E.tup Es.nil) (Es.cons (E.tup Es.nil) Es.nil))))))) (Es.cons (E.tup (Es.cons (E.cst (D.int 0)) (Es.cons (E.cst (D.int 0)) (Es.cons (E.tup Es.nil) (Es.cons (E.tup Es.nil) (Es.cons (E.tup Es.nil) (Es.cons (E.tup (Es.cons (E.cst (D.int 2)) Es.nil)) Es.nil))))))) (Es.cons (E.tup (Es.cons (E.cst (D.int 0)) (Es.cons (E.cst (D.int 0)) (Es.cons (E.tup Es.nil) (Es.cons (E.tup Es.nil) (Es.cons (E.tup Es.nil) (Es.cons (E.tup (Es.cons (E.neg (E.cst (D.int 1))) Es.nil)) Es.nil))))))) Es.nil)))))))))
  (Ss.cons (S.asg (T.var 2) (E.bin Op2.add (E.var 2) (E.lst (Es.cons (E.tup (Es.cons (E.cst (D.int 1)) (Es.cons (E.cst (D.int 0)) (Es.cons (E.tup Es.nil) (Es.cons (E.tup (Es.cons (E.tup (Es.cons (E.cst (D.int 2)) (Es.cons (E.cst (D.int 2)) Es.nil))) Es.nil)) (Es.cons (E.tup Es.nil) (Es.cons (E.tup (Es.cons (E.cst (D.int 0)) Es.nil)) Es.nil))))))) (Es.cons (E.tup (Es.cons (E.cst (D.int 1)) (Es.cons (E.cst (D.int 0)) (Es.cons (E.tup Es.nil) (Es.cons (E.tup (Es.cons (E.tup (Es.cons (E.cst (D.int 3)) (Es.cons (E.cst (D.int 2)) Es.nil))) Es.nil)) (Es.cons (E.tup Es.nil) (Es.cons (E.tup (Es.cons (E.cst (D.int 0)) Es.nil)) Es.nil))))))) (Es.cons (E.tup (Es.cons (E.cst (D.int 1)) (Es.cons (E.cst (D.int 0)) (Es.cons (E.tup Es.nil) (Es.cons (E.tup (Es.cons (E.tup (Es.cons (E.cst (D.int 2)) (Es.cons (E.cst (D.int 4)) Es.nil))) Es.nil)) (Es.cons (E.tup Es.nil) (Es.cons (E.tup (Es.cons (E.cst (D.int 0)) Es.nil)) Es.nil))))))) (Es.cons (E.tup (Es.cons (E.cst (D.int 1)) (Es.cons (E.cst (D.int 0)) (Es.cons (E.tup Es.nil) (Es.cons (E.tup (Es.cons (E.tup (Es.cons (E.cst (D.int 2)) (Es.cons (E.cst (D.int 3)) (Es.cons (E.cst (D.int 3)) Es.nil)))) Es.nil)) (Es.cons (E.tup Es.nil) (Es.cons (E.tup (Es.cons (E.cst (D.int 0)) Es.nil)) Es.nil))))))) (Es.cons (E.tup (Es.cons (E.cst (D.int 1)) (Es.cons (E.cst (D.int 0)) (Es.cons (E.tup Es.nil) (Es.cons (E.lst (Es.cons (E.tup (Es.cons (E.cst (D.int 2)) (Es.cons (E.cst (D.int 3)) Es.nil))) Es.nil)) (Es.cons (E.tup Es.nil) (Es.cons (E.tup (Es.cons (E.cst (D.int 0)) Es.nil)) Es.nil))))))) Es.nil))))))))
  (Ss.cons (S.asg (T.var 2) (E.bin Op2.add (E.var 2) (E.lst (Es.cons (E.tup (Es.cons (E.cst (D.int 0)) (Es.cons (E.cst (D.int 0)) (Es.cons (E.tup Es.nil) (Es.cons (E.bin Op2.mul (E.tup (Es.cons (E.tup (Es.cons (E.cst (D.int 0)) (Es.cons (E.cst (D.int 1)) Es.nil))) Es.nil)) (E.cst (D.int 401))) (Es.cons (E.tup Es.nil) (Es.cons (E.tup (Es.cons (E.cst (D.int 0)) Es.nil)) Es.nil))))))) (Es.cons (E.tup (Es.cons (E.cst (D.int 0)) (Es.cons (E.cst (D.int 0)) (Es.cons (E.tup Es.nil) (Es.cons (E.tup Es.nil) (Es.cons (E.tup Es.nil) (Es.cons (E.bin Op2.mul (E.tup (Es.cons (E.cst (D.int 0)) Es.nil)) (E.cst (D.int 17))) Es.nil))))))) (Es.cons (E.tup (Es.cons (E.cst (D.int 0)) (Es.cons (E.cst (D.int 1)) (Es.cons (E.tup (Es.cons (E.cst (D.int 0)) Es.nil)) (Es.cons (E.tup Es.nil) (Es.cons (E.tup (Es.cons (E.cst (D.int 4)) Es.nil)) (Es.cons (E.tup (Es.cons (E.cst (D.int 0)) Es.nil)) Es.nil))))))) (Es.cons (E.tup (Es.cons (E.cst (D.int 0)) (Es.cons (E.cst (D.int 0)) (Es.cons (E.tup Es.nil) (Es.cons (E.tup Es.nil) (Es.cons (E.tup Es.nil) (Es.cons (E.tup (Es.cons (E.cst (D.bl true)) Es.nil)) Es.nil))))))) (Es.cons (E.tup (Es.cons (E.cst (D.int 1)) (Es.cons (E.cst (D.int 0)) (Es.cons (E.tup Es.nil) (Es.cons (E.tup (Es.cons (E.lst (Es.cons (E.cst (D.int 2)) (Es.cons (E.cst (D.int 3)) Es.nil))) Es.nil)) (Es.cons (E.tup Es.nil) (Es.cons (E.tup (Es.cons (E.cst (D.int 0)) Es.nil)) Es.nil))))))) Es.nil))))))))
  (Ss.cons (S.asg (T.var 3) (E.lst (Es.cons (E.var 1) (Es.cons (E.tup (Es.cons (E.cst (D.int 0)) (Es.cons (E.cst (D.int 0)) (Es.cons (E.tup Es.nil) (Es.cons (E.tup Es.nil) (Es.cons (E.tup Es.nil) (Es.cons (E.tup (Es.cons (E.cst (D.int 1)) Es.nil)) Es.nil))))))) (Es.cons (E.tup (Es.cons (E.cst (D.int 8)) (Es.cons (E.cst (D.int 6)) (Es.cons (E.bin Op2.mul (E.tup (Es.cons (E.cst (D.int 1)) Es.nil)) (E.cst (D.int 6))) (Es.cons (E.tup Es.nil) (Es.cons (E.bin Op2.mul (E.tup (Es.cons (E.cst (D.int 0)) Es.nil)) (E.cst (D.int 6))) (Es.cons (E.bin Op2.mul (E.tup (Es.cons (E.cst (D.int 0)) Es.nil)) (E.cst (D.int 16))) Es.nil))))))) (Es.cons (E.tup (Es.cons (E.cst (D.int 0)) (Es.cons (E.cst (D.int 0)) (Es.cons (E.tup Es.nil) (Es.cons (E.bin Op2.mul (E.tup (Es.cons (E.tup (Es.cons (E.cst (D.int 0)) (Es.cons (E.cst (D.int 1)) Es.nil))) Es.nil)) (E.cst (D.int 400))) (Es.cons (E.tup Es.nil) (Es.cons (E.tup (Es.cons (E.cst (D.int 800)) Es.nil)) Es.nil))))))) Es.nil))))))
  (Ss.cons (S.ifs (E.not (E.call i__law_like (Es.cons (E.lc [4] e__law_limits_right_5 (T.var 4) (I.val (E.bin Op2.add (E.var 2) (E.var 3))) Eo.none) (Es.cons (E.bin Op2.add (E.bin Op2.mul (E.lst (Es.cons (E.cst (D.bl false)) Es.nil)) (E.cst (D.int 26))) (E.bin Op2.mul (E.lst (Es.cons (E.cst (D.bl true)) Es.nil)) (E.cst (D.int 4)))) Es.nil)))) (Ss.cons (S.ret (E.cst (D.bl false)))
  Ss.nil) Ss.nil)
  (Ss.cons (S.asg (T.tup [(T.var 5), (T.var 6)]) (E.tup (Es.cons (E.lst Es.nil) (Es.cons (E.call i__law_some (Es.cons (E.rv 0) (Es.cons (E.var 2) Es.nil))) Es.nil))))
  (Ss.cons (S.for (T.var 7) (I.val (E.tup (Es.cons (E.fn i_gates_step) (Es.cons (E.fn i_gates_bits) Es.nil)))) l__law_limits_right_4)
  (Ss.cons (S.asg (T.var 5) (E.bin Op2.add (E.var 5) (E.lst (Es.cons (E.lam i__law_error (E.call i_gates_run (Es.cons (E.var 6) (Es.cons (E.cst D.non) Es.nil)))) Es.nil))))
  (Ss.cons (S.for (T.var 10) (I.val (E.tup (Es.cons (E.cst D.non) (Es.cons (E.lst (Es.cons (E.tup (Es.cons (E.cst (D.int 0)) (Es.cons (E.cst (D.int 0)) Es.nil))) Es.nil)) (Es.cons (E.tup (Es.cons (E.tup (Es.cons (E.cst (D.int 0)) Es.nil)) Es.nil)) (Es.cons (E.tup (Es.cons (E.tup (Es.cons (E.cst (D.int 0)) (Es.cons (E.cst (D.int 2)) Es.nil))) Es.nil)) (Es.cons (E.bin Op2.mul (E.tup (Es.cons (E.tup (Es.cons (E.cst (D.int 0)) (Es.cons (E.cst (D.int 0)) Es.nil))) Es.nil)) (E.cst (D.int 201))) (Es.cons (E.tup (Es.cons (E.cst (D.int 0)) (Es.cons (E.cst (D.int 0)) Es.nil))) (Es.cons (E.tup (Es.cons (E.tup (Es.cons (E.cst (D.int 0)) (Es.cons (E.cst (D.int 0)) Es.nil))) (Es.cons (E.lst (Es.cons (E.cst (D.int 0)) (Es.cons (E.cst (D.int 0)) Es.nil))) Es.nil))) (Es.cons (E.cst (D.int 0)) Es.nil)))))))))) l__law_limits_right_1)
  (Ss.cons (S.asg (T.var 11) (E.lst (Es.cons (E.call i_gates_step (Es.cons (E.var 1) (Es.cons (E.tup (Es.cons (E.cst (D.int 1)) (Es.cons (E.cst (D.int 0)) Es.nil))) (Es.cons (E.tup (Es.cons (E.cst (D.int 0)) Es.nil)) Es.nil)))) (Es.cons (E.call i_gates_step (Es.cons (E.var 1) (Es.cons (E.tup (Es.cons (E.cst (D.int 1)) (Es.cons (E.cst (D.int 0)) Es.nil))) (Es.cons (E.tup (Es.cons (E.cst (D.int 1)) Es.nil)) Es.nil)))) (Es.cons (E.call i_gates_run (Es.cons (E.var 1) (Es.cons (E.tup (Es.cons (E.tup (Es.cons (E.cst (D.int 1)) (Es.cons (E.cst (D.int 0)) Es.nil))) (Es.cons (E.tup (Es.cons (E.cst (D.int 0)) (Es.cons (E.cst (D.int 0)) Es.nil))) (Es.cons (E.tup (Es.cons (E.cst (D.int 0)) (Es.cons (E.cst (D.int 1)) Es.nil))) Es.nil)))) Es.nil))) (Es.cons (E.call i_gates_bits (Es.cons (E.var 1) (Es.cons (E.tup (Es.cons (E.cst (D.int 1)) (Es.cons (E.cst (D.int 1)) Es.nil))) (Es.cons (E.tup (Es.cons (E.cst (D.int 1)) Es.nil)) Es.nil)))) (Es.cons (E.call i_gates_run (Es.cons (E.var 1) (Es.cons (E.tup Es.nil) Es.nil))) Es.nil)))))))
  (Ss.cons (S.asg (T.var 12) (E.lst (Es.cons (E.tup (Es.cons (E.tup (Es.cons (E.cst (D.int 0)) (Es.cons (E.cst (D.int 0)) Es.nil))) (Es.cons (E.tup (Es.cons (E.cst (D.int 1)) Es.nil)) Es.nil))) (Es.cons (E.tup (Es.cons (E.tup (Es.cons (E.cst (D.int 1)) (Es.cons (E.cst (D.int 0)) Es.nil))) (Es.cons (E.tup (Es.cons (E.cst (D.int 0)) Es.nil)) Es.nil))) (Es.cons (E.tup (Es.cons (E.tup (Es.cons (E.cst (D.int 0)) (Es.cons (E.cst (D.int 0)) Es.nil))) (Es.cons (E.tup (Es.cons (E.cst (D.int 1)) (Es.cons (E.cst (D.int 1)) Es.nil))) (Es.cons (E.tup (Es.cons (E.cst (D.int 1)) (Es.cons (E.cst (D.int 0)) Es.nil))) Es.nil)))) (Es.cons (E.tup (Es.cons (E.cst (D.int 0)) (Es.cons (E.cst (D.int 1)) (Es.cons (E.cst (D.int 1)) (Es.cons (E.cst (D.int 1)) (Es.cons (E.cst (D.int 1)) (Es.cons (E.cst (D.int 0)) (Es.cons (E.cst (D.int 0)) (Es.cons (E.cst (D.int 0)) (Es.cons (E.cst (D.int 0)) (Es.cons (E.cst (D.int 1)) Es.nil))))))))))) (Es.cons (E.tup Es.nil) Es.nil)))))))
  (Ss.cons (S.ret (E.and (E.cmp Cm.eq (E.var 5) (E.bin Op2.add (E.bin Op2.add (E.bin Op2.mul (E.bin Op2.add (E.lst (Es.cons (E.cst (D.str ⟨#[103, 97, 116, 101, 115]⟩)) Es.nil)) (E.bin Op2.mul (E.lst (Es.cons (E.cst (D.str ⟨#[118, 97, 108, 117, 101, 115]⟩)) Es.nil)) (E.cst (D.int 13)))) (E.cst (D.int 2))) (E.lst (Es.cons (E.cst (D.str ⟨#[103, 97, 116, 101, 115]⟩)) Es.nil))) (E.bin Op2.mul (E.lst (Es.cons (E.cst (D.str ⟨#[119, 111, 114, 100]⟩)) Es.nil)) (E.cst (D.int 8))))) (E.call i__law_like (Es.cons (E.var 11) (Es.cons (E.var 12) Es.nil)))))
  Ss.nil))))))))))))))
def f__law_limits_right : Fd := { ps := [Md.m], ns := 13, own := [0], bor := [], fresh := false, hd := false, body := b__law_limits_right }
def l_law_1 : Ss := (Ss.cons (S.ifs (E.not (E.call i__law_gates_right (Es.cons (E.rv 1) Es.nil))) (Ss.cons (S.ret (E.cst (D.bl false)))
  Ss.nil) Ss.nil)
  Ss.nil)
def b_law : Ss := (Ss.cons (S.asgr 1 (E.call i__law_cup (Es.cons (E.rv 0) Es.nil)))
  (Ss.cons (S.for (T.var 2) (I.rng1 (E.cst (D.int 8))) l_law_1)
  (Ss.cons (S.ret (E.and (E.call i__law_great_right (Es.cons (E.rv 1) Es.nil)) (E.call i__law_limits_right (Es.cons (E.rv 1) Es.nil))))
  Ss.nil)))
def f_law : Fd := { ps := [Md.b], ns := 3, own := [1], bor := [0], fresh := false, hd := false, body := b_law }
def tb : List Fd := [f_is_whole, f_is_tuple_of, f_are_bits, f_is_node, f_is_gates, f_need_gates, f_edge_bit, f_all_bits, f_done, f_need_given, f_need_word, f_gates_step, f_gates_run, f_gates_bits, f__law_cup, f__law_roll, f__law_some, f__law_sort, f__law_like, f__law_gates, f__law_has, f__law_told, f__law_error, f__law_gates_right, f__law_great_right, f__law_limits_right, f_law]
def anc : List (List Nat) := [[0], [1, 0], [2, 0], [3, 0]]
def sub (a b : Nat) : Bool := (anc.getD a (anc.headD [])).contains b
@[simp] theorem tb_is_whole : tb[i_is_whole]? = some f_is_whole := rfl
@[simp] theorem ps_is_whole : f_is_whole.ps = [Md.s, Md.b, Md.b] := rfl
@[simp] theorem own_is_whole : f_is_whole.own = [] := rfl
@[simp] theorem fro_is_whole : frOf tb i_is_whole = false := rfl
@[simp] theorem fr_is_whole : f_is_whole.fresh = false := rfl
theorem call_is_whole {n : Nat} {a0 a1 a2 : D} : Fs tb sub (n + 1) i_is_whole [a0, a1, a2] = finish f_is_whole (exs b_is_whole (LV tb sub n f_is_whole) [some a0, some a1, some a2]) := call_eq (fd := f_is_whole) rfl rfl
@[simp] theorem tb_is_tuple_of : tb[i_is_tuple_of]? = some f_is_tuple_of := rfl
@[simp] theorem ps_is_tuple_of : f_is_tuple_of.ps = [Md.b, Md.b, Md.b] := rfl
@[simp] theorem own_is_tuple_of : f_is_tuple_of.own = [] := rfl
@[simp] theorem fro_is_tuple_of : frOf tb i_is_tuple_of = false := rfl
@[simp] theorem fr_is_tuple_of : f_is_tuple_of.fresh = false := rfl
theorem call_is_tuple_of {n : Nat} {a0 a1 a2 : D} : Fs tb sub (n + 1) i_is_tuple_of [a0, a1, a2] = finish f_is_tuple_of (exs b_is_tuple_of (LV tb sub n f_is_tuple_of) [some a0, some a1, some a2]) := call_eq (fd := f_is_tuple_of) rfl rfl
@[simp] theorem tb_are_bits : tb[i_are_bits]? = some f_are_bits := rfl
@[simp] theorem ps_are_bits : f_are_bits.ps = [Md.s, Md.b] := rfl
@[simp] theorem own_are_bits : f_are_bits.own = [] := rfl
@[simp] theorem fro_are_bits : frOf tb i_are_bits = false := rfl
@[simp] theorem fr_are_bits : f_are_bits.fresh = false := rfl
theorem call_are_bits {n : Nat} {a0 a1 : D} : Fs tb sub (n + 1) i_are_bits [a0, a1] = finish f_are_bits (exs b_are_bits (LV tb sub n f_are_bits) [some a0, some a1, none]) := call_eq (fd := f_are_bits) rfl rfl
@[simp] theorem tb_is_node : tb[i_is_node]? = some f_is_node := rfl
@[simp] theorem ps_is_node : f_is_node.ps = [Md.b, Md.b] := rfl
@[simp] theorem own_is_node : f_is_node.own = [] := rfl
@[simp] theorem fro_is_node : frOf tb i_is_node = false := rfl
@[simp] theorem fr_is_node : f_is_node.fresh = false := rfl
theorem call_is_node {n : Nat} {a0 a1 : D} : Fs tb sub (n + 1) i_is_node [a0, a1] = finish f_is_node (exs b_is_node (LV tb sub n f_is_node) [some a0, some a1]) := call_eq (fd := f_is_node) rfl rfl
@[simp] theorem tb_is_gates : tb[i_is_gates]? = some f_is_gates := rfl
@[simp] theorem ps_is_gates : f_is_gates.ps = [Md.s] := rfl
@[simp] theorem own_is_gates : f_is_gates.own = [] := rfl
@[simp] theorem fro_is_gates : frOf tb i_is_gates = false := rfl
@[simp] theorem fr_is_gates : f_is_gates.fresh = false := rfl
theorem call_is_gates {n : Nat} {a0 : D} : Fs tb sub (n + 1) i_is_gates [a0] = finish f_is_gates (exs b_is_gates (LV tb sub n f_is_gates) [some a0, none, none, none, none, none, none, none, none, none, none]) := call_eq (fd := f_is_gates) rfl rfl
@[simp] theorem tb_need_gates : tb[i_need_gates]? = some f_need_gates := rfl
@[simp] theorem ps_need_gates : f_need_gates.ps = [Md.s] := rfl
@[simp] theorem own_need_gates : f_need_gates.own = [] := rfl
@[simp] theorem fro_need_gates : frOf tb i_need_gates = false := rfl
@[simp] theorem fr_need_gates : f_need_gates.fresh = false := rfl
theorem call_need_gates {n : Nat} {a0 : D} : Fs tb sub (n + 1) i_need_gates [a0] = finish f_need_gates (exs b_need_gates (LV tb sub n f_need_gates) [some a0]) := call_eq (fd := f_need_gates) rfl rfl
@[simp] theorem tb_edge_bit : tb[i_edge_bit]? = some f_edge_bit := rfl
@[simp] theorem ps_edge_bit : f_edge_bit.ps = [Md.b, Md.b] := rfl
@[simp] theorem own_edge_bit : f_edge_bit.own = [] := rfl
@[simp] theorem fro_edge_bit : frOf tb i_edge_bit = false := rfl
@[simp] theorem fr_edge_bit : f_edge_bit.fresh = false := rfl
theorem call_edge_bit {n : Nat} {a0 a1 : D} : Fs tb sub (n + 1) i_edge_bit [a0, a1] = finish f_edge_bit (exs b_edge_bit (LV tb sub n f_edge_bit) [some a0, some a1]) := call_eq (fd := f_edge_bit) rfl rfl
@[simp] theorem tb_all_bits : tb[i_all_bits]? = some f_all_bits := rfl
@[simp] theorem ps_all_bits : f_all_bits.ps = [Md.b, Md.b, Md.b] := rfl
@[simp] theorem own_all_bits : f_all_bits.own = [3] := rfl
@[simp] theorem fro_all_bits : frOf tb i_all_bits = true := rfl
@[simp] theorem fr_all_bits : f_all_bits.fresh = true := rfl
theorem call_all_bits {n : Nat} {a0 a1 a2 : D} : Fs tb sub (n + 1) i_all_bits [a0, a1, a2] = finish f_all_bits (exs b_all_bits (LV tb sub n f_all_bits) [some a0, some a1, some a2, none, none, none]) := call_eq (fd := f_all_bits) rfl rfl
@[simp] theorem tb_done : tb[i_done]? = some f_done := rfl
@[simp] theorem ps_done : f_done.ps = [Md.b, Md.b, Md.b] := rfl
@[simp] theorem own_done : f_done.own = [] := rfl
@[simp] theorem fro_done : frOf tb i_done = false := rfl
@[simp] theorem fr_done : f_done.fresh = false := rfl
theorem call_done {n : Nat} {a0 a1 a2 : D} : Fs tb sub (n + 1) i_done [a0, a1, a2] = finish f_done (exs b_done (LV tb sub n f_done) [some a0, some a1, some a2, none, none]) := call_eq (fd := f_done) rfl rfl
@[simp] theorem tb_need_given : tb[i_need_given]? = some f_need_given := rfl
@[simp] theorem ps_need_given : f_need_given.ps = [Md.b, Md.s] := rfl
@[simp] theorem own_need_given : f_need_given.own = [] := rfl
@[simp] theorem fro_need_given : frOf tb i_need_given = false := rfl
@[simp] theorem fr_need_given : f_need_given.fresh = false := rfl
theorem call_need_given {n : Nat} {a0 a1 : D} : Fs tb sub (n + 1) i_need_given [a0, a1] = finish f_need_given (exs b_need_given (LV tb sub n f_need_given) [some a0, some a1]) := call_eq (fd := f_need_given) rfl rfl
@[simp] theorem tb_need_word : tb[i_need_word]? = some f_need_word := rfl
@[simp] theorem ps_need_word : f_need_word.ps = [Md.b, Md.s] := rfl
@[simp] theorem own_need_word : f_need_word.own = [] := rfl
@[simp] theorem fro_need_word : frOf tb i_need_word = false := rfl
@[simp] theorem fr_need_word : f_need_word.fresh = false := rfl
theorem call_need_word {n : Nat} {a0 a1 : D} : Fs tb sub (n + 1) i_need_word [a0, a1] = finish f_need_word (exs b_need_word (LV tb sub n f_need_word) [some a0, some a1, none]) := call_eq (fd := f_need_word) rfl rfl
@[simp] theorem tb_gates_step : tb[i_gates_step]? = some f_gates_step := rfl
@[simp] theorem ps_gates_step : f_gates_step.ps = [Md.s, Md.s, Md.s] := rfl
@[simp] theorem own_gates_step : f_gates_step.own = [] := rfl
@[simp] theorem fro_gates_step : frOf tb i_gates_step = false := rfl
@[simp] theorem fr_gates_step : f_gates_step.fresh = false := rfl
theorem call_gates_step {n : Nat} {a0 a1 a2 : D} : Fs tb sub (n + 1) i_gates_step [a0, a1, a2] = finish f_gates_step (exs b_gates_step (LV tb sub n f_gates_step) [some a0, some a1, some a2]) := call_eq (fd := f_gates_step) rfl rfl
@[simp] theorem tb_gates_run : tb[i_gates_run]? = some f_gates_run := rfl
@[simp] theorem ps_gates_run : f_gates_run.ps = [Md.s, Md.s] := rfl
@[simp] theorem own_gates_run : f_gates_run.own = [2] := rfl
@[simp] theorem fro_gates_run : frOf tb i_gates_run = false := rfl
@[simp] theorem fr_gates_run : f_gates_run.fresh = false := rfl
theorem call_gates_run {n : Nat} {a0 a1 : D} : Fs tb sub (n + 1) i_gates_run [a0, a1] = finish f_gates_run (exs b_gates_run (LV tb sub n f_gates_run) [some a0, some a1, none, none, none, none]) := call_eq (fd := f_gates_run) rfl rfl
@[simp] theorem tb_gates_bits : tb[i_gates_bits]? = some f_gates_bits := rfl
@[simp] theorem ps_gates_bits : f_gates_bits.ps = [Md.s, Md.s, Md.s] := rfl
@[simp] theorem own_gates_bits : f_gates_bits.own = [] := rfl
@[simp] theorem fro_gates_bits : frOf tb i_gates_bits = false := rfl
@[simp] theorem fr_gates_bits : f_gates_bits.fresh = false := rfl
theorem call_gates_bits {n : Nat} {a0 a1 a2 : D} : Fs tb sub (n + 1) i_gates_bits [a0, a1, a2] = finish f_gates_bits (exs b_gates_bits (LV tb sub n f_gates_bits) [some a0, some a1, some a2]) := call_eq (fd := f_gates_bits) rfl rfl
@[simp] theorem tb__law_cup : tb[i__law_cup]? = some f__law_cup := rfl
@[simp] theorem ps__law_cup : f__law_cup.ps = [Md.b] := rfl
@[simp] theorem own__law_cup : f__law_cup.own = [] := rfl
@[simp] theorem fro__law_cup : frOf tb i__law_cup = true := rfl
@[simp] theorem fr__law_cup : f__law_cup.fresh = true := rfl
theorem call__law_cup {n : Nat} {a0 : D} : Fs tb sub (n + 1) i__law_cup [a0] = finish f__law_cup (exs b__law_cup (LV tb sub n f__law_cup) [some a0, none]) := call_eq (fd := f__law_cup) rfl rfl
@[simp] theorem tb__law_roll : tb[i__law_roll]? = some f__law_roll := rfl
@[simp] theorem ps__law_roll : f__law_roll.ps = [Md.m, Md.b] := rfl
@[simp] theorem own__law_roll : f__law_roll.own = [0] := rfl
@[simp] theorem fro__law_roll : frOf tb i__law_roll = false := rfl
@[simp] theorem fr__law_roll : f__law_roll.fresh = false := rfl
theorem call__law_roll {n : Nat} {a0 a1 : D} : Fs tb sub (n + 1) i__law_roll [a0, a1] = finish f__law_roll (exs b__law_roll (LV tb sub n f__law_roll) [some a0, some a1, none]) := call_eq (fd := f__law_roll) rfl rfl
@[simp] theorem tb__law_some : tb[i__law_some]? = some f__law_some := rfl
@[simp] theorem ps__law_some : f__law_some.ps = [Md.m, Md.b] := rfl
@[simp] theorem own__law_some : f__law_some.own = [0] := rfl
@[simp] theorem fro__law_some : frOf tb i__law_some = false := rfl
@[simp] theorem fr__law_some : f__law_some.fresh = false := rfl
theorem call__law_some {n : Nat} {a0 a1 : D} : Fs tb sub (n + 1) i__law_some [a0, a1] = finish f__law_some (exs b__law_some (LV tb sub n f__law_some) [some a0, some a1]) := call_eq (fd := f__law_some) rfl rfl
@[simp] theorem tb__law_sort : tb[i__law_sort]? = some f__law_sort := rfl
@[simp] theorem ps__law_sort : f__law_sort.ps = [Md.b] := rfl
@[simp] theorem own__law_sort : f__law_sort.own = [] := rfl
@[simp] theorem fro__law_sort : frOf tb i__law_sort = false := rfl
@[simp] theorem fr__law_sort : f__law_sort.fresh = false := rfl
theorem call__law_sort {n : Nat} {a0 : D} : Fs tb sub (n + 1) i__law_sort [a0] = finish f__law_sort (exs b__law_sort (LV tb sub n f__law_sort) [some a0]) := call_eq (fd := f__law_sort) rfl rfl
@[simp] theorem tb__law_like : tb[i__law_like]? = some f__law_like := rfl
@[simp] theorem ps__law_like : f__law_like.ps = [Md.s, Md.s] := rfl
@[simp] theorem own__law_like : f__law_like.own = [] := rfl
@[simp] theorem fro__law_like : frOf tb i__law_like = false := rfl
@[simp] theorem fr__law_like : f__law_like.fresh = false := rfl
theorem call__law_like {n : Nat} {a0 a1 : D} : Fs tb sub (n + 1) i__law_like [a0, a1] = finish f__law_like (exs b__law_like (LV tb sub n f__law_like) [some a0, some a1, none, none, none]) := call_eq (fd := f__law_like) rfl rfl
@[simp] theorem tb__law_gates : tb[i__law_gates]? = some f__law_gates := rfl
@[simp] theorem ps__law_gates : f__law_gates.ps = [Md.m] := rfl
@[simp] theorem own__law_gates : f__law_gates.own = [0, 3] := rfl
@[simp] theorem fro__law_gates : frOf tb i__law_gates = false := rfl
@[simp] theorem fr__law_gates : f__law_gates.fresh = false := rfl
theorem call__law_gates {n : Nat} {a0 : D} : Fs tb sub (n + 1) i__law_gates [a0] = finish f__law_gates (exs b__law_gates (LV tb sub n f__law_gates) [some a0, none, none, none, none, none, none, none, none, none, none]) := call_eq (fd := f__law_gates) rfl rfl
@[simp] theorem tb__law_has : tb[i__law_has]? = some f__law_has := rfl
@[simp] theorem ps__law_has : f__law_has.ps = [Md.s, Md.b, Md.b, Md.b, Md.m] := rfl
@[simp] theorem own__law_has : f__law_has.own = [4] := rfl
@[simp] theorem fro__law_has : frOf tb i__law_has = false := rfl
@[simp] theorem fr__law_has : f__law_has.fresh = false := rfl
theorem call__law_has {n : Nat} {a0 a1 a2 a3 a4 : D} : Fs tb sub (n + 1) i__law_has [a0, a1, a2, a3, a4] = finish f__law_has (exs b__law_has (LV tb sub n f__law_has) [some a0, some a1, some a2, some a3, some a4, none, none, none, none, none, none, none, none, none, none]) := call_eq (fd := f__law_has) rfl rfl
@[simp] theorem tb__law_told : tb[i__law_told]? = some f__law_told := rfl
@[simp] theorem ps__law_told : f__law_told.ps = [Md.s, Md.b, Md.b] := rfl
@[simp] theorem own__law_told : f__law_told.own = [3] := rfl
@[simp] theorem fro__law_told : frOf tb i__law_told = false := rfl
@[simp] theorem fr__law_told : f__law_told.fresh = false := rfl
theorem call__law_told {n : Nat} {a0 a1 a2 : D} : Fs tb sub (n + 1) i__law_told [a0, a1, a2] = finish f__law_told (exs b__law_told (LV tb sub n f__law_told) [some a0, some a1, some a2, none, none, none]) := call_eq (fd := f__law_told) rfl rfl
@[simp] theorem tb__law_error : tb[i__law_error]? = some f__law_error := rfl
@[simp] theorem ps__law_error : f__law_error.ps = [Md.b] := rfl
@[simp] theorem own__law_error : f__law_error.own = [] := rfl
@[simp] theorem fro__law_error : frOf tb i__law_error = false := rfl
@[simp] theorem fr__law_error : f__law_error.fresh = false := rfl
theorem call__law_error {n : Nat} {a0 : D} : Fs tb sub (n + 1) i__law_error [a0] = finish f__law_error (exs b__law_error (LV tb sub n f__law_error) [some a0, none, none, none, none]) := call_eq (fd := f__law_error) rfl rfl
@[simp] theorem tb__law_gates_right : tb[i__law_gates_right]? = some f__law_gates_right := rfl
@[simp] theorem ps__law_gates_right : f__law_gates_right.ps = [Md.m] := rfl
@[simp] theorem own__law_gates_right : f__law_gates_right.own = [0, 8, 13] := rfl
@[simp] theorem fro__law_gates_right : frOf tb i__law_gates_right = false := rfl
@[simp] theorem fr__law_gates_right : f__law_gates_right.fresh = false := rfl
theorem call__law_gates_right {n : Nat} {a0 : D} : Fs tb sub (n + 1) i__law_gates_right [a0] = finish f__law_gates_right (exs b__law_gates_right (LV tb sub n f__law_gates_right) [some a0, none, none, none, none, none, none, none, none, none, none, none, none, none, none, none]) := call_eq (fd := f__law_gates_right) rfl rfl
@[simp] theorem tb__law_great_right : tb[i__law_great_right]? = some f__law_great_right := rfl
@[simp] theorem ps__law_great_right : f__law_great_right.ps = [Md.m] := rfl
@[simp] theorem own__law_great_right : f__law_great_right.own = [0, 5, 14, 17] := rfl
@[simp] theorem fro__law_great_right : frOf tb i__law_great_right = false := rfl
@[simp] theorem fr__law_great_right : f__law_great_right.fresh = false := rfl
theorem call__law_great_right {n : Nat} {a0 : D} : Fs tb sub (n + 1) i__law_great_right [a0] = finish f__law_great_right (exs b__law_great_right (LV tb sub n f__law_great_right) [some a0, none, none, none, none, none, none, none, none, none, none, none, none, none, none, none, none, none, none, none, none, none]) := call_eq (fd := f__law_great_right) rfl rfl
@[simp] theorem tb__law_limits_right : tb[i__law_limits_right]? = some f__law_limits_right := rfl
@[simp] theorem ps__law_limits_right : f__law_limits_right.ps = [Md.m] := rfl
@[simp] theorem own__law_limits_right : f__law_limits_right.own = [0] := rfl
@[simp] theorem fro__law_limits_right : frOf tb i__law_limits_right = false := rfl
@[simp] theorem fr__law_limits_right : f__law_limits_right.fresh = false := rfl
theorem call__law_limits_right {n : Nat} {a0 : D} : Fs tb sub (n + 1) i__law_limits_right [a0] = finish f__law_limits_right (exs b__law_limits_right (LV tb sub n f__law_limits_right) [some a0, none, none, none, none, none, none, none, none, none, none, none, none]) := call_eq (fd := f__law_limits_right) rfl rfl
@[simp] theorem tb_law : tb[i_law]? = some f_law := rfl
@[simp] theorem ps_law : f_law.ps = [Md.b] := rfl
@[simp] theorem own_law : f_law.own = [1] := rfl
@[simp] theorem fro_law : frOf tb i_law = false := rfl
@[simp] theorem fr_law : f_law.fresh = false := rfl
theorem call_law {n : Nat} {a0 : D} : Fs tb sub (n + 1) i_law [a0] = finish f_law (exs b_law (LV tb sub n f_law) [some a0, none, none]) := call_eq (fd := f_law) rfl rfl

/-! ### the law's own helpers -/
section
variable {n : Nat}
theorem run_sort {d : D} {k : Nat} (h : lkd k d = true) : Fs tb sub (n + 1) i__law_sort [d] = .ok (.int (sortD d), []) := by
  rw [call__law_sort]
  cases d <;> first | (simp [b__law_sort, sortD]; done) | (unfold lkd at h; cases h)
theorem run_like : ∀ (k : Nat) (d : D), lkd k d = true → Fs tb sub (n + k + 2) i__law_like [d, d] = .ok (.bl true, [])
  | k, d, h => by
    rw [call__law_like]
    have hs : Fs tb sub (n + k + 1) i__law_sort [d] = .ok (.int (sortD d), []) := run_sort h
    have seq : ∀ (xs : List D) (m : Nat) (σ : Sd) (d1 d2 : D), (∀ x ∈ xs, Fs tb sub m i__law_like [x, x] = .ok (.bl true, [])) → xs.length ≤ 16777216 → lcS [3, 4] e__law_like_1 (T.tup [(T.var 3), (T.var 4)]) c__law_like_1 (LV tb sub m f__law_like) [some d1, some d2, some (.int (sortD d)), none, none] (zipL xs xs) [some d1, some d2, some (.int (sortD d)), none, none] = .ok (.lst [], [some d1, some d2, some (.int (sortD d)), none, none]) := by
      intro xs m σ d1 d2 hx hl
      rw [zipL_self, lcS_filt (fun x => D.tup [x, x]) (fun _ => False) (fun _ => .non) (Fit.of hl _ (Nat.le_refl _))]
      · simp
      · intro x hm
        simp [lcT, c__law_like_1, callS, hx x hm]
    cases d with
    | tup xs =>
      cases k with
      | zero => unfold lkd at h; cases h
      | succ k =>
        simp at h
        have ih := fun x hx => run_like k x (lks_mem h.2 x hx)
        have := seq xs (n + k + 2) [] (.tup xs) (.tup xs) ih h.1
        have hs : Fs tb sub (n + k + 2) i__law_sort [.tup xs] = .ok (.int (sortD (.tup xs)), []) := run_sort (k := k + 1) (by simpa using h)
        simp [sortD] at hs this
        simp [b__law_like, callS, hs, this, cmpD_eq_nil, show n + (k + 1) + 1 = n + k + 2 by omega]
    | lst xs =>
      cases k with
      | zero => unfold lkd at h; cases h
      | succ k =>
        simp at h
        have ih := fun x hx => run_like k x (lks_mem h.2 x hx)
        have := seq xs (n + k + 2) [] (.lst xs) (.lst xs) ih h.1
        have hs : Fs tb sub (n + k + 2) i__law_sort [.lst xs] = .ok (.int (sortD (.lst xs)), []) := run_sort (k := k + 1) (by simpa using h)
        simp [sortD] at hs this
        simp [b__law_like, callS, hs, this, cmpD_eq_nil, show n + (k + 1) + 1 = n + k + 2 by omega]
    | non => simp [sortD] at hs; simp [b__law_like, callS, hs, cmpD_eq_non]
    | bl b => simp [sortD] at hs; simp [b__law_like, callS, hs, cmpD_eq_non]
    | int b => simp [sortD] at hs; simp [b__law_like, callS, hs, cmpD_eq_non]
    | str b => simp [sortD] at hs; simp [b__law_like, callS, hs, cmpD_eq_non]
    | _ => unfold lkd at h; cases h
end
section
variable {n : Nat}
theorem run_cup {ns : List Int} (hn : ns.length ≤ 63) : ∃ c, Fs tb sub (n + 1) i__law_cup [.frz (intL ns)] = .ok (c, []) ∧ Cup c := by
  rw [call__law_cup]
  have hf : Fit 8388608 (intL ns) := by simp; exact Fit.of hn _ (by decide)
  have hp : bop .pow (.int 10) (.int 18) = some (.int (10 ^ 18)) := bop_pow (by decide) (by decide) (by decide)
  have key : ∀ (x : Int) (r : List Int), ns ++ [0] = x :: r → ∃ c, finish f__law_cup (exs b__law_cup (LV tb sub n f__law_cup) [some (.frz (intL ns)), none]) = .ok (c, []) ∧ Cup c := by
    intro x r e
    have e2 : intL ns ++ [D.int 0] = .int x :: intL r := by
      have := congrArg intL e
      simpa using this
    refine ⟨.lst [.int (if 1000000000000000000 ≤ (if x < 0 then -x else x) then (if x < 0 then -x else x) / 257 else 0), .int (((if x < 0 then -x else x) * 521 + 7853) % 99829 + 373)], by simp [b__law_cup, hf, hp, e2, bop_mul, bop_fdiv, bop_mod], _, _, ?_, ?_, rfl⟩
    · split
      · split <;> omega
      · omega
    · have := Int.emod_nonneg ((if x < 0 then -x else x) * 521 + 7853) (b := 99829) (by decide)
      omega
  cases ns with
  | nil => exact key 0 [] rfl
  | cons x r => exact key x (r ++ [0]) rfl
theorem run_roll {a b k : Int} (ha : 0 ≤ a) (hb : 0 ≤ b) (hk : 0 < k) (hk2 : k < 1000000) : ∃ r c, Fs tb sub (n + 1) i__law_roll [.lst [.int a, .int b], .int k] = .ok (.int r, [c]) ∧ Cup c ∧ 0 ≤ r ∧ r < k := by
  rw [call__law_roll]
  have h1 : bop .mod (.int a) (.int k) = some (.int (a % k)) := bop_mod hk
  have h2 : bop .fdiv (.int a) (.int k) = some (.int (a / k)) := bop_fdiv hk (by omega)
  by_cases h : 0 < a
  · refine ⟨a % k, .lst [.int (a / k), .int b], ?_, ⟨_, _, Int.ediv_nonneg ha (by omega), hb, rfl⟩, Int.emod_nonneg _ (by omega), Int.emod_lt_of_pos _ hk⟩
    simp [b__law_roll, h, h1, h2]
  · refine ⟨(b * 139 + 2543) % 99829 / 53 % k, .lst [.int a, .int ((b * 139 + 2543) % 99829)], ?_, ⟨_, _, ha, Int.emod_nonneg _ (by omega), rfl⟩, Int.emod_nonneg _ (by omega), Int.emod_lt_of_pos _ hk⟩
    simp [b__law_roll, h, bop_mod hk, bop_mod, bop_mul, bop_fdiv]
theorem run_rollC {c : D} {k : Int} (hc : Cup c) (hk : 0 < k) (hk2 : k < 1000000) : ∃ r c', Fs tb sub (n + 1) i__law_roll [c, .int k] = .ok (.int r, [c']) ∧ Cup c' ∧ 0 ≤ r ∧ r < k := by
  obtain ⟨a, b, ha, hb, rfl⟩ := hc
  exact run_roll ha hb hk hk2
theorem run_someT {c : D} {xs : List D} (hc : Cup c) (hx : xs ≠ []) (hl : xs.length < 1000000) : ∃ d c', Fs tb sub (n + 2) i__law_some [c, .tup xs] = .ok (d, [c']) ∧ Cup c' ∧ d ∈ xs := by
  have hp : 0 < xs.length := List.length_pos_iff.mpr hx
  obtain ⟨r, c', h1, h2, h3, h4⟩ := run_rollC (n := n) (k := xs.length) hc (by omega) (by omega)
  have hr : r.toNat < xs.length := by omega
  have hs : subD (.tup xs) (.int r) = some xs[r.toNat] := by
    have := subD_tup (xs := xs) (k := r.toNat) (List.getElem?_eq_getElem hr)
    rwa [show ((r.toNat : Nat) : Int) = r by omega] at this
  refine ⟨xs[r.toNat], c', ?_, h2, List.getElem_mem hr⟩
  rw [call__law_some]
  simp [b__law_some, callS, h1, hs]
theorem run_someL {c : D} {xs : List D} (hc : Cup c) (hx : xs ≠ []) (hl : xs.length < 1000000) : ∃ d c', Fs tb sub (n + 2) i__law_some [c, .lst xs] = .ok (d, [c']) ∧ Cup c' ∧ d ∈ xs := by
  have hp : 0 < xs.length := List.length_pos_iff.mpr hx
  obtain ⟨r, c', h1, h2, h3, h4⟩ := run_rollC (n := n) (k := xs.length) hc (by omega) (by omega)
  have hr : r.toNat < xs.length := by omega
  have hs : subD (.lst xs) (.int r) = some xs[r.toNat] := by
    have := subD_lst (xs := xs) (k := r.toNat) (List.getElem?_eq_getElem hr)
    rwa [show ((r.toNat : Nat) : Int) = r by omega] at this
  refine ⟨xs[r.toNat], c', ?_, h2, List.getElem_mem hr⟩
  rw [call__law_some]
  simp [b__law_some, callS, h1, hs]
end
/-! ### judges of plain values -/
section
variable {n : Nat} {i lo hi : Int} {xs : List D} {b : Bool} {x : Str}
@[simp] theorem whole_int : Fs tb sub (n + 1) i_is_whole [.int i, .int lo, .int hi] = .ok (.bl (decide (lo ≤ i ∧ i ≤ hi)), []) := by
  rw [call_is_whole]
  simp [b_is_whole]
@[simp] theorem whole_bl : Fs tb sub (n + 1) i_is_whole [.bl b, .int lo, .int hi] = .ok (.bl false, []) := by
  rw [call_is_whole]
  simp [b_is_whole]
@[simp] theorem whole_non : Fs tb sub (n + 1) i_is_whole [.non, .int lo, .int hi] = .ok (.bl false, []) := by
  rw [call_is_whole]
  simp [b_is_whole]
@[simp] theorem whole_str : Fs tb sub (n + 1) i_is_whole [.str x, .int lo, .int hi] = .ok (.bl false, []) := by
  rw [call_is_whole]
  simp [b_is_whole]
@[simp] theorem whole_tup : Fs tb sub (n + 1) i_is_whole [.tup xs, .int lo, .int hi] = .ok (.bl false, []) := by
  rw [call_is_whole]
  simp [b_is_whole]
@[simp] theorem whole_lst : Fs tb sub (n + 1) i_is_whole [.lst xs, .int lo, .int hi] = .ok (.bl false, []) := by
  rw [call_is_whole]
  simp [b_is_whole]
@[simp] theorem tupof_tup : Fs tb sub (n + 1) i_is_tuple_of [.tup xs, .int lo, .int hi] = .ok (.bl (decide (lo ≤ xs.length ∧ xs.length ≤ hi)), []) := by
  rw [call_is_tuple_of]
  simp [b_is_tuple_of]
end
/-! ### bits -/
section
variable {n : Nat}
@[simp] theorem whole_bit {b : Bool} : Fs tb sub (n + 1) i_is_whole [bitD b, .int 0, .int 1] = .ok (.bl true, []) := by
  unfold bitD
  rw [whole_int]
  cases b <;> simp
theorem run_are_bits {bs : List Bool} {m : Int} (hl : bs.length ≤ 16777216) : Fs tb sub (n + 2) i_are_bits [.tup (bs.map bitD), .int m] = .ok (.bl (decide ((bs.length : Int) = m)), []) := by
  rw [call_are_bits]
  simp [b_are_bits, callS]
  rw [lcS_map bitD (fun _ => D.bl true) (Fit.of hl _ (by decide)) (by
    intro b hb
    simp [lcT, e_are_bits_1, callS])]
  simp
  rw [Bool.eq_iff_iff]; simp; omega
theorem run_need_given {bs : List Bool} {m : Int} (hl : bs.length ≤ 16777216) (h : (bs.length : Int) = m) : Fs tb sub (n + 3) i_need_given [.int m, .tup (bs.map bitD)] = .ok (.non, []) := by
  rw [call_need_given]
  simp [b_need_given, callS, run_are_bits hl, h]
theorem run_need_word {rows : List (List Bool)} {m : Int} (hl : rows.length ≤ 200) (h : ∀ r ∈ rows, (r.length : Int) = m) (hm : m ≤ 100) : Fs tb sub (n + 3) i_need_word [.int m, .tup (rows.map fun r => .tup (r.map bitD))] = .ok (.non, []) := by
  rw [call_need_word]
  simp [b_need_word, callS, show (rows.length : Int) ≤ 200 by omega]
  rw [lcS_map (fun r : List Bool => D.tup (r.map bitD)) (fun _ => D.bl true) (Fit.of hl _ (by decide)) (by
    intro r hr
    have h1 := h r hr
    have h2 : r.length ≤ 16777216 := by omega
    simp [lcT, e_need_word_1, callS, run_are_bits h2, h1])]
  simp
/-! ### draws of bits, of small numbers -/
theorem run_rollB {c : D} (hc : Cup c) : ∃ b c', Fs tb sub (n + 1) i__law_roll [c, .int 2] = .ok (bitD b, [c']) ∧ Cup c' := by
  obtain ⟨r, c', h1, h2, h3, h4⟩ := run_rollC (n := n) (k := 2) hc (by decide) (by decide)
  refine ⟨decide (r = 1), c', ?_, h2⟩
  rw [h1]
  unfold bitD
  by_cases h : r = 1
  · simp [h]
  · simp [h]; omega
theorem run_rollN {c : D} {k : Int} (hc : Cup c) (hk : 0 < k) (hk2 : k < 1000000) : ∃ (r : Nat) (c' : D), Fs tb sub (n + 1) i__law_roll [c, .int k] = .ok (natD r, [c']) ∧ Cup c' ∧ (r : Int) < k := by
  obtain ⟨r, c', h1, h2, h3, h4⟩ := run_rollC (n := n) (k := k) hc hk hk2
  refine ⟨r.toNat, c', ?_, h2, by omega⟩
  rw [h1]
  show _ = R.ok (D.int ((r.toNat : Nat) : Int), _)
  rw [show ((r.toNat : Nat) : Int) = r by omega]
end
/-! ### nets of gates -/
structure Gt where
  ins : Nat
  sts : Nat
  firsts : List Bool
  nds : List (Nat × Nat)
  nexts : List Nat
  outs : List Nat
def ndD (p : Nat × Nat) : D := .tup [natD p.1, natD p.2]
def gtD (g : Gt) : D := .tup [natD g.ins, natD g.sts, .tup (g.firsts.map bitD), .tup (g.nds.map ndD), .tup (g.nexts.map natD), .tup (g.outs.map natD)]
structure GtOk (g : Gt) : Prop where
  ins : g.ins ≤ 8
  sts : g.sts ≤ 6
  firsts : g.firsts.length = g.sts
  ndl : g.nds.length ≤ 400
  nd : ∀ i p, g.nds[i]? = some p → p.1 < p.2 ∧ p.2 < 2 * (1 + g.ins + g.sts + i)
  nexts : g.nexts.length = g.sts
  nextLt : ∀ w ∈ g.nexts, w < 2 * (1 + g.ins + g.sts + g.nds.length)
  outs : 1 ≤ g.outs.length ∧ g.outs.length ≤ 16
  outLt : ∀ w ∈ g.outs, w < 2 * (1 + g.ins + g.sts + g.nds.length)
/-- the bit at an edge -/
def eb (bits : List Bool) (e : Nat) : Bool := if e % 2 = 0 then bg bits (e / 2) else !bg bits (e / 2)
def allB (nds : List (Nat × Nat)) (bits : List Bool) : List Bool := nds.foldl (fun b p => b ++ [eb b p.1 && eb b p.2]) bits
theorem allB_len : ∀ (nds : List (Nat × Nat)) (bits : List Bool), (allB nds bits).length = bits.length + nds.length
  | [], _ => rfl
  | p :: r, bits => by
    show (allB r (bits ++ [_])).length = _
    rw [allB_len r]
    simp
    omega
theorem allB_app (a b : List (Nat × Nat)) (bits : List Bool) : allB (a ++ b) bits = allB b (allB a bits) := by unfold allB; rw [List.foldl_append]
def bits0 (given held : List Bool) : List Bool := false :: (given ++ held)
def outsG (g : Gt) (given held : List Bool) (ws : List Nat) : List Bool := ws.map fun e => eb (allB g.nds (bits0 given held)) e
def stepG (g : Gt) (given held : List Bool) : D := .tup [.tup ((outsG g given held g.outs).map bitD), .tup ((outsG g given held g.nexts).map bitD)]
section
variable {n : Nat}
theorem run_is_node {p : Nat × Nat} {m : Nat} {k : Int} (hk : k = m) (h1 : p.1 < p.2) (h2 : p.2 < 2 * m) : Fs tb sub (n + 2) i_is_node [ndD p, .int k] = .ok (.bl true, []) := by
  have hm : bop .mul (.int 2) (.int k) = some (.int (2 * k)) := bop_mul (.inl (by omega))
  rw [call_is_node]
  unfold ndD
  simp [b_is_node, callS, hm, show (p.1 : Int) ≤ 2 * k - 1 by omega, show (p.2 : Int) ≤ 2 * k - 1 by omega, show (p.1 : Int) + 1 ≤ p.2 by omega]
theorem run_is_gates {g : Gt} (h : GtOk g) : Fs tb sub (n + 4) i_is_gates [gtD g] = .ok (.bl true, []) := by
  obtain ⟨h1, h2, h3, h4, h5, h6, h7, h8, h9⟩ := h
  have hb := run_are_bits (n := n + 1) (bs := g.firsts) (m := g.sts) (by omega)
  have hm : bop .mul (.int 2) (.int ((1 : Int) + g.ins + g.sts + g.nds.length)) = some (.int (2 * ((1 : Int) + g.ins + g.sts + g.nds.length))) := bop_mul (.inl (by omega))
  rw [call_is_gates]
  unfold gtD
  simp [b_is_gates, callS, hb, h3, h4, h6, show (g.ins : Int) ≤ 8 by omega, show (g.sts : Int) ≤ 6 by omega, show (g.nds.length : Int) ≤ 400 by omega]
  rw [enumL_map]
  rw [lcS_map (fun q : Nat × (Nat × Nat) => D.tup [natD q.1, ndD q.2]) (fun _ => D.bl true) (Fit.of (k := 400) (by rw [zipR_len]; omega) _ (by decide)) (by
    intro q hq
    have ht := h5 q.1 q.2 (mem_zipR hq)
    have hr := run_is_node (n := n + 1) (k := (1 : Int) + g.ins + g.sts + q.1) (m := 1 + g.ins + g.sts + q.1) (by omega) ht.1 ht.2
    simp [lcT, e_is_gates_2, callS, hr])]
  have f1 : Fit 8388608 g.nexts := Fit.of (k := 6) (by omega) _ (by decide)
  have f2 : Fit 8388608 g.outs := Fit.of h8.2 _ (by decide)
  simp [callS, hm, show (1 : Int) ≤ g.outs.length by omega, show (g.outs.length : Int) ≤ 16 by omega, f1, f2]
  rw [← List.map_append]
  rw [lcS_map natD (fun _ => D.bl true) (Fit.of (k := 22) (by simp; omega) _ (by decide)) (by
    intro w hw
    have hw : w < 2 * (1 + g.ins + g.sts + g.nds.length) := by
      rcases List.mem_append.mp hw with q | q
      · exact h7 w q
      · exact h9 w q
    simp [lcT, e_is_gates_1, callS]
    omega)]
  simp [-List.map_append]
theorem run_need_gates {g : Gt} (h : GtOk g) : Fs tb sub (n + 5) i_need_gates [gtD g] = .ok (.non, []) := by
  rw [call_need_gates]
  simp [b_need_gates, callS, run_is_gates h]
theorem run_edge_bit {bits : List Bool} {e : Nat} (h : e / 2 < bits.length) : Fs tb sub (n + 1) i_edge_bit [.lst (bits.map bitD), natD e] = .ok (bitD (eb bits e), []) := by
  have hm : bop .mod (natD e) (.int 2) = some (natD (e % 2)) := by
    rw [bop_mod (by omega)]; rfl
  have hd : bop .fdiv (natD e) (.int 2) = some (natD (e / 2)) := by
    rw [bop_fdiv (by omega) (by omega)]; rfl
  have hg := subD_bgL h
  rw [call_edge_bit]
  rcases Nat.mod_two_eq_zero_or_one e with z | z
  · have : eb bits e = bg bits (e / 2) := by unfold eb; rw [if_pos z]
    rw [this]
    rw [z] at hm
    simp [b_edge_bit, hm, hd, hg]
  · have : eb bits e = !bg bits (e / 2) := by unfold eb; rw [if_neg (by omega)]
    rw [this]
    rw [z] at hm
    cases hb : bg bits (e / 2) <;> rw [hb] at hg <;> simp [b_edge_bit, hm, hd, hg, bitD]
theorem mul_bits (a b : Bool) : bop .mul (bitD a) (bitD b) = some (bitD (a && b)) := by cases a <;> cases b <;> rfl
theorem run_all_bits {g : Gt} {given held : List Bool} (h : GtOk g) (h1 : given.length = g.ins) (h2 : held.length = g.sts) : Fs tb sub (n + 2) i_all_bits [gtD g, .tup (given.map bitD), .tup (held.map bitD)] = .ok (.lst ((allB g.nds (bits0 given held)).map bitD), []) := by
  have p1 := h.ins
  have p2 := h.sts
  have p3 := h.ndl
  obtain ⟨σ', e1, g4, g5, e2⟩ := forS_inv (t := T.tup [(T.var 4), (T.var 5)]) (l := LV tb sub (n + 1) f_all_bits) (b := l_all_bits_1) (ys := g.nds) (σ := [some (gtD g), some (.tup (given.map bitD)), some (.tup (held.map bitD)), some (.lst ((bits0 given held).map bitD)), none, none]) ndD
    (fun pre σ => ∃ g4 g5 : Option D, σ = [some (gtD g), some (.tup (given.map bitD)), some (.tup (held.map bitD)), some (.lst ((allB pre (bits0 given held)).map bitD)), g4, g5]) ⟨none, none, rfl⟩ (by
      rintro pre p post σ e ⟨g4, g5, rfl⟩
      have hl : pre.length + post.length + 1 = g.nds.length := by
        have := congrArg List.length e
        simp at this
        omega
      have ht := h.nd pre.length p (by rw [e]; simp)
      have hwl : (allB pre (bits0 given held)).length = 1 + g.ins + g.sts + pre.length := by rw [allB_len]; simp [bits0]; omega
      rw [allB_app]
      show ∃ σ2, _ ∧ ∃ g4 g5 : Option D, σ2 = [some (gtD g), some (.tup (given.map bitD)), some (.tup (held.map bitD)), some (.lst ((allB pre (bits0 given held) ++ [eb (allB pre (bits0 given held)) p.1 && eb (allB pre (bits0 given held)) p.2]).map bitD)), g4, g5]
      generalize hB : allB pre (bits0 given held) = bits at hwl
      have r1 := run_edge_bit (n := n) (bits := bits) (e := p.1) (by omega)
      have r2 := run_edge_bit (n := n) (bits := bits) (e := p.2) (by omega)
      have hf : Fit 16777215 (bits.map bitD) := Fit.of (k := 500) (by simp; omega) _ (by decide)
      refine ⟨[some (gtD g), some (.tup (given.map bitD)), some (.tup (held.map bitD)), some (.lst (bits.map bitD ++ [bitD (eb bits p.1 && eb bits p.2)])), some (natD p.1), some (natD p.2)], ?_, some (natD p.1), some (natD p.2), by simp⟩
      generalize gtD g = G at *
      simp -implicitDefEqProofs [ndD, l_all_bits_1, callS, r1, r2, mul_bits, mmD_append hf])
  have f3 : Fit 8388608 given := Fit.of (k := 8) (by omega) _ (by decide)
  have f1 : Fit 4194304 given := Fit.of (k := 8) (by omega) _ (by decide)
  have f2 : Fit 8388608 held := Fit.of (k := 6) (by omega) _ (by decide)
  have hadd := bop_addL (xs := D.int 0 :: given.map bitD) (ys := held.map bitD) (Fit.of (k := 9) (by simp; omega) _ (by decide)) (Fit.of (k := 6) (by simp; omega) _ (by decide))
  have e5 : subD (gtD g) (.int 3) = some (.tup (g.nds.map ndD)) := by simp [gtD]
  rw [call_all_bits]
  simp only [bits0] at *
  generalize gtD g = G at *
  have hc : bitD false = D.int 0 := rfl
  simp only [List.map_cons, List.map_append, hc] at e1
  simp -implicitDefEqProofs [b_all_bits, hadd, f2, f3, e1, e2, e5]
theorem run_done {g : Gt} {given held : List Bool} (h : GtOk g) (h1 : given.length = g.ins) (h2 : held.length = g.sts) : Fs tb sub (n + 3) i_done [gtD g, .tup (given.map bitD), .tup (held.map bitD)] = .ok (stepG g given held, []) := by
  have hw := run_all_bits (n := n) h h1 h2
  have hlt : ∀ e, e < 2 * (1 + g.ins + g.sts + g.nds.length) → e / 2 < (allB g.nds (bits0 given held)).length := fun e he => by rw [allB_len]; simp [bits0]; omega
  have p1 := h.outs.2
  have p2 := h.nexts
  have p3 := h.sts
  have e5 : subD (gtD g) (.int 5) = some (.tup (g.outs.map natD)) := by simp [gtD]
  have e4 : subD (gtD g) (.int 4) = some (.tup (g.nexts.map natD)) := by simp [gtD]
  rw [call_done]
  generalize gtD g = G at *
  simp [b_done, callS, hw, e5]
  rw [lcS_map natD (fun e => bitD (eb (allB g.nds (bits0 given held)) e)) (Fit.of (k := 16) (by omega) _ (by decide)) (by
    intro w hm
    have := run_edge_bit (n := n + 1) (hlt w (h.outLt w hm))
    simp [lcT, e_done_1, callS, this])]
  simp [e4]
  rw [lcS_map natD (fun e => bitD (eb (allB g.nds (bits0 given held)) e)) (Fit.of (k := 6) (by omega) _ (by decide)) (by
    intro w hm
    have := run_edge_bit (n := n + 1) (hlt w (h.nextLt w hm))
    simp [lcT, e_done_2, callS, this])]
  simp [stepG, outsG]
theorem run_gates_step {g : Gt} {given held : List Bool} (h : GtOk g) (h1 : given.length = g.ins) (h2 : held.length = g.sts) : Fs tb sub (n + 6) i_gates_step [gtD g, .tup (given.map bitD), .tup (held.map bitD)] = .ok (stepG g given held, []) := by
  have a1 := run_need_gates (n := n) h
  have a2 := run_need_given (n := n + 2) (bs := given) (m := g.ins) (by have := h.ins; omega) (by omega)
  have a3 := run_need_given (n := n + 2) (bs := held) (m := g.sts) (by have := h.sts; omega) (by omega)
  have a4 := run_done (n := n + 2) h h1 h2
  rw [call_gates_step]
  unfold gtD at *
  simp [b_gates_step, callS, a1, a2, a3, a4, stepG]
theorem run_gates_bits {g : Gt} {given held : List Bool} (h : GtOk g) (h1 : given.length = g.ins) (h2 : held.length = g.sts) : Fs tb sub (n + 6) i_gates_bits [gtD g, .tup (given.map bitD), .tup (held.map bitD)] = .ok (.tup ((allB g.nds (bits0 given held)).map bitD), []) := by
  have a1 := run_need_gates (n := n) h
  have a2 := run_need_given (n := n + 2) (bs := given) (m := g.ins) (by have := h.ins; omega) (by omega)
  have a3 := run_need_given (n := n + 2) (bs := held) (m := g.sts) (by have := h.sts; omega) (by omega)
  have a4 := run_all_bits (n := n + 3) h h1 h2
  rw [call_gates_bits]
  unfold gtD at *
  simp [b_gates_bits, callS, a1, a2, a3, a4]
/-- the rows of outs along a word, the bits held behind it -/
def goG (g : Gt) (word : List (List Bool)) (held : List Bool) : List (List Bool) × List Bool := word.foldl (fun q given => (q.1 ++ [outsG g given q.2 g.outs], outsG g given q.2 g.nexts)) ([], held)
def rowsD (rows : List (List Bool)) : List D := rows.map fun r => D.tup (r.map bitD)
theorem goG_app (g : Gt) (a : List (List Bool)) (x : List Bool) (held : List Bool) : goG g (a ++ [x]) held = ((goG g a held).1 ++ [outsG g x (goG g a held).2 g.outs], outsG g x (goG g a held).2 g.nexts) := by
  unfold goG
  rw [List.foldl_append]
  rfl
theorem goG_len (g : Gt) : ∀ (a : List (List Bool)) (held : List Bool), (goG g a held).1.length = a.length := by
  have key : ∀ (a : List (List Bool)) (q : List (List Bool) × List Bool), (a.foldl (fun q given => (q.1 ++ [outsG g given q.2 g.outs], outsG g given q.2 g.nexts)) q).1.length = q.1.length + a.length := by
    intro a
    induction a with
    | nil => intro q; rfl
    | cons x a ih => intro q; rw [List.foldl_cons, ih]; simp; omega
  intro a held
  have := key a ([], held)
  simpa [goG] using this
theorem goG_held (g : Gt) (hn : g.nexts.length = g.sts) (a : List (List Bool)) (held : List Bool) (hh : held.length = g.sts) : (goG g a held).2.length = g.sts := by
  have key : ∀ (a : List (List Bool)) (q : List (List Bool) × List Bool), q.2.length = g.sts → (a.foldl (fun q given => (q.1 ++ [outsG g given q.2 g.outs], outsG g given q.2 g.nexts)) q).2.length = g.sts := by
    intro a
    induction a with
    | nil => intro q h; exact h
    | cons x a ih => intro q h; rw [List.foldl_cons]; exact ih _ (by simp [outsG, hn])
  exact key a _ hh
theorem goG_row (g : Gt) (hn : g.outs.length ≤ 16) (a : List (List Bool)) (held : List Bool) : ∀ r ∈ (goG g a held).1, r.length ≤ 100 := by
  have key : ∀ (w : List (List Bool)) (q : List (List Bool) × List Bool), (∀ r ∈ q.1, r.length ≤ 100) → ∀ r ∈ (w.foldl (fun q given => (q.1 ++ [outsG g given q.2 g.outs], outsG g given q.2 g.nexts)) q).1, r.length ≤ 100 := by
    intro w
    induction w with
    | nil => intro q h; exact h
    | cons x w ih =>
      intro q h
      rw [List.foldl_cons]
      refine ih _ fun r hr => ?_
      rcases List.mem_append.mp hr with z | z
      · exact h r z
      · rw [List.mem_singleton.mp z]
        simp [outsG]
        omega
  exact key a _ (fun r hr => nomatch hr)
theorem run_gates_run {g : Gt} {word : List (List Bool)} (h : GtOk g) (hw : word.length ≤ 200) (hr : ∀ r ∈ word, r.length = g.ins) : Fs tb sub (n + 6) i_gates_run [gtD g, .tup (rowsD word)] = .ok (.tup (rowsD (goG g word g.firsts).1), []) := by
  have a1 := run_need_gates (n := n) h
  have a2 := run_need_word (n := n + 2) (rows := word) (m := g.ins) hw (fun r hm => by have := hr r hm; omega) (by have := h.ins; omega)
  obtain ⟨σ', e1, g4, g5, e2⟩ := forS_inv (t := T.var 4) (l := LV tb sub (n + 5) f_gates_run) (b := l_gates_run_1) (ys := word) (σ := [some (gtD g), some (.tup (rowsD word)), some (.lst []), some (.tup (g.firsts.map bitD)), none, none]) (fun r => D.tup (r.map bitD))
    (fun pre σ => ∃ g4 g5 : Option D, σ = [some (gtD g), some (.tup (rowsD word)), some (.lst (rowsD (goG g pre g.firsts).1)), some (.tup ((goG g pre g.firsts).2.map bitD)), g4, g5]) ⟨none, none, rfl⟩ (by
      rintro pre r post σ e ⟨g4, g5, rfl⟩
      have hl : pre.length + post.length + 1 = word.length := by
        have := congrArg List.length e
        simp at this
        omega
      have hm : r.length = g.ins := hr r (by rw [e]; simp)
      have a3 := run_done (n := n + 2) (given := r) (held := (goG g pre g.firsts).2) h hm (goG_held g h.nexts pre _ h.firsts)
      have hf : Fit 16777215 (rowsD (goG g pre g.firsts).1) := Fit.of (k := 200) (by simp [rowsD, goG_len]; omega) _ (by decide)
      refine ⟨[some (gtD g), some (.tup (rowsD word)), some (.lst (rowsD (goG g pre g.firsts).1 ++ [.tup ((outsG g r (goG g pre g.firsts).2 g.outs).map bitD)])), some (.tup ((outsG g r (goG g pre g.firsts).2 g.nexts).map bitD)), some (.tup (r.map bitD)), some (.tup ((outsG g r (goG g pre g.firsts).2 g.outs).map bitD))], ?_, some (.tup (r.map bitD)), some (.tup ((outsG g r (goG g pre g.firsts).2 g.outs).map bitD)), ?_⟩
      · simp [l_gates_run_1, callS, a3, stepG, hf]
      · simp [goG_app, rowsD])
  have e0 : (word.map fun r => D.tup (r.map bitD)) = rowsD word := rfl
  rw [e0] at a2 e1
  have e3 : subD (gtD g) (.int 0) = some (natD g.ins) := by simp [gtD]
  have e4 : subD (gtD g) (.int 2) = some (.tup (g.firsts.map bitD)) := by simp [gtD]
  rw [call_gates_run]
  generalize gtD g = G at *
  simp -implicitDefEqProofs [b_gates_run, callS, a1, a2, e1, e2, e3, e4]
end
/-! ### a comprehension that changes what is its own, its values known -/
section
variable {α : Type} {own : List Nat} {elt : E} {t : T} {c : Eo} {l : Lv} {σ0 σ : Sd}
theorem lcGo_mapI (enc g : α → D) (Inv : Sd → Prop) : ∀ (ys : List α) (σ : Sd) (acc : List D), Inv (wipeD σ own) →
    (∀ y ∈ ys, ∀ σw, Inv σw → ∃ σw', lcR own (lcT elt t c l (enc y) σw) = .ok (some (g y), σw') ∧ Inv σw') → acc.length + ys.length ≤ SZ →
    ∃ (σ' : Sd), lcGo (fun x σ => lcT elt t c l x (wipeD σ own)) (ys.map enc) σ acc = .ok (acc ++ ys.map g, σ') ∧ Inv (wipeD σ' own)
  | [], σ, acc, h0, _, _ => ⟨σ, by simp [lcGo], h0⟩
  | y :: ys, σ, acc, h0, h, hl => by
    obtain ⟨σw, h1, h3⟩ := h y List.mem_cons_self _ h0
    obtain ⟨σ1, h4, h5⟩ := lcR_inv h1
    subst h5
    obtain ⟨σ', e1, e2⟩ := lcGo_mapI enc g Inv ys σ1 (acc ++ [g y]) h3 (fun z hz => h z (List.mem_cons_of_mem _ hz)) (by simp at hl ⊢; omega)
    refine ⟨σ', ?_, e2⟩
    rw [List.map_cons]
    unfold lcGo
    rw [h4]
    simp only [bind_ok]
    rw [if_pos (by simp at hl; unfold SZ; omega), e1]
    simp
theorem lcS_mapI (enc g : α → D) (Inv : Sd → Prop) {ys : List α} (hl : Fit 16777216 ys) (h0 : Inv (wipeD σ own)) (h : ∀ y ∈ ys, ∀ σw, Inv σw → ∃ σw', lcR own (lcT elt t c l (enc y) σw) = .ok (some (g y), σw') ∧ Inv σw') :
    ∃ (σw : Sd), lcS own elt t c l σ0 (ys.map enc) σ = .ok (.lst (ys.map g), back own σ0 σw) ∧ Inv σw := by
  obtain ⟨σ', e1, e2⟩ := lcGo_mapI enc g Inv ys σ [] h0 h (by unfold Fit at hl; unfold SZ; simpa using hl)
  refine ⟨wipeD σ' own, ?_, e2⟩
  unfold lcS
  rw [e1]
  simp [back_wipe (wipe_wipe σ' own)]
end
/-! ### the law's own reckoning: what is seen so far -/
theorem nodup_le : ∀ (N : Nat) (l : List Nat), l.Nodup → (∀ x ∈ l, x < N) → l.length ≤ N
  | 0, l, _, h => by
    cases l with
    | nil => simp
    | cons x r => exact absurd (h x List.mem_cons_self) (Nat.not_lt_zero x)
  | N + 1, l, hn, h => by
    have h1 := nodup_le N (l.erase N) (hn.erase N) (fun x hx => by
      have h2 := (hn.mem_erase_iff).mp hx
      have h3 := h x h2.2
      omega)
    rw [List.length_erase] at h1
    split at h1 <;> omega
theorem bg_app_lt {bits l : List Bool} {k : Nat} (h : k < bits.length) : bg (bits ++ l) k = bg bits k := by
  unfold bg
  rw [List.getD_eq_getElem?_getD, List.getD_eq_getElem?_getD, List.getElem?_append_left h]
theorem bg_app_eq {bits : List Bool} {v : Bool} : bg (bits ++ [v]) bits.length = v := by
  unfold bg
  rw [List.getD_eq_getElem?_getD, List.getElem?_append_right (Nat.le_refl _)]
  simp
theorem allB_pre : ∀ (nds : List (Nat × Nat)) (bits : List Bool) {k : Nat}, k < bits.length → bg (allB nds bits) k = bg bits k
  | [], _, _, _ => rfl
  | p :: r, bits, k, h => by
    show bg (allB r (bits ++ [_])) k = _
    rw [allB_pre r _ (by simp; omega), bg_app_lt h]
theorem eb_pre (nds : List (Nat × Nat)) (bits : List Bool) {e : Nat} (h : e / 2 < bits.length) : eb (allB nds bits) e = eb bits e := by
  unfold eb
  rw [allB_pre nds bits h]
theorem allB_at : ∀ (nds : List (Nat × Nat)) (bits : List Bool) {i : Nat} {p : Nat × Nat}, nds[i]? = some p → p.1 / 2 < bits.length + i → p.2 / 2 < bits.length + i → bg (allB nds bits) (bits.length + i) = (eb (allB nds bits) p.1 && eb (allB nds bits) p.2)
  | [], _, _, _, h, _, _ => by simp at h
  | q :: r, bits, 0, p, h, h1, h2 => by
    have : q = p := by simpa using h
    subst this
    rw [eb_pre _ _ h1, eb_pre _ _ h2]
    show bg (allB r (bits ++ [eb bits q.1 && eb bits q.2])) bits.length = _
    rw [allB_pre r _ (by simp), bg_app_eq]
  | q :: r, bits, i + 1, p, h, h1, h2 => by
    have := allB_at r (bits ++ [eb bits q.1 && eb bits q.2]) (i := i) (p := p) (by simpa using h) (by simp; omega) (by simp; omega)
    rw [show (bits ++ [eb bits q.1 && eb bits q.2]).length + i = bits.length + (i + 1) by simp; omega] at this
    exact this
def seenD (A : List Bool) (ks : List Nat) : D := .dic (ks.map fun k => (natD k, .bl (bg A k)))
theorem deq_nat (a b : Nat) : deq (natD a) (natD b) = decide (a = b) := by
  unfold natD deq
  by_cases h : a = b
  · simp [h]
  · simp [h]
    omega
theorem seen_any (A : List Bool) (ks : List Nat) (t : Nat) : ((ks.map fun k => (natD k, D.bl (bg A k))).any fun q => deq q.1 (natD t)) = decide (t ∈ ks) := by
  induction ks with
  | nil => simp
  | cons k ks ih =>
    rw [List.map_cons, List.any_cons, ih, deq_nat]
    by_cases h : k = t
    · subst h; simp
    · have h2 : ¬ t = k := fun e => h e.symm
      simp [h, h2]
theorem seen_notin (A : List Bool) (ks : List Nat) (t : Nat) : cmpD .notin (natD t) (seenD A ks) = some (decide (t ∉ ks)) := by
  show (some ((ks.map fun k => (natD k, D.bl (bg A k))).any fun q => deq q.1 (natD t))).map (!·) = _
  rw [seen_any]
  simp
theorem seen_get (A : List Bool) : ∀ (ks : List Nat) (t : Nat), t ∈ ks → subD (seenD A ks) (natD t) = some (.bl (bg A t))
  | [], t, h => by cases h
  | k :: ks, t, h => by
    show (((natD k, D.bl (bg A k)) :: (ks.map fun k => (natD k, D.bl (bg A k)))).find? fun q => deq q.1 (natD t)).map (·.2) = _
    rw [List.find?_cons, deq_nat]
    by_cases e : k = t
    · subst e; simp
    · have ht : t ∈ ks := by
        rcases List.mem_cons.mp h with z | z
        · exact absurd z.symm e
        · exact z
      have := seen_get A ks t ht
      simp only [e, decide_false]
      exact this
theorem seen_put (A : List Bool) (ks : List Nat) (t : Nat) (h : t ∉ ks) (hl : ks.length < 16777216) : setD (seenD A ks) (natD t) (.bl (bg A t)) = some (seenD A (ks ++ [t])) := by
  show (if (true && decide ((ks.map fun k => (natD k, D.bl (bg A k))).length < SZ)) = true then some (D.dic (dput (ks.map fun k => (natD k, D.bl (bg A k))) (natD t) (.bl (bg A t)))) else none) = _
  rw [if_pos (by simp [SZ]; exact hl)]
  unfold dput
  rw [seen_any, decide_eq_false h]
  simp [seenD]
/-- what is seen: once each, of the things there are -/
structure Seen (N : Nat) (ks : List Nat) : Prop where
  nd : ks.Nodup
  lt : ∀ k ∈ ks, k < N
theorem Seen.add {N t : Nat} {ks : List Nat} (h : Seen N ks) (ht : t < N) (hn : t ∉ ks) : Seen N (ks ++ [t]) :=
  ⟨List.nodup_append.mpr ⟨h.nd, by simp, fun a ha b hb => by
    rw [List.mem_singleton.mp hb]
    exact fun z => hn (z ▸ ha)⟩, fun k hk => by
    rcases List.mem_append.mp hk with z | z
    · exact h.lt k z
    · rw [List.mem_singleton.mp z]; exact ht⟩
theorem eb_ne (A : List Bool) (e : Nat) : eb A e = (bg A (e / 2) != decide (e % 2 = 1)) := by
  unfold eb
  rcases Nat.mod_two_eq_zero_or_one e with z | z
  · rw [if_pos z, z]; simp
  · rw [if_neg (by omega), z]; simp
section
variable {n : Nat}
abbrev allG (g : Gt) (given held : List Bool) : List Bool := allB g.nds (bits0 given held)
theorem cmpD_ne_bl (a b : Bool) : cmpD .ne (.bl a) (.bl b) = some (a != b) := by cases a <;> cases b <;> rfl
theorem has_tail {A : List Bool} {G : D} {given held : List Bool} {e : Nat} {ks : List Nat} {x7 x8 x9 x10 x11 x12 x13 x14 : Option D} {m : Nat} (h : e / 2 ∈ ks) :
    exs (match b__law_has with | .cons _ (.cons _ r) => r | _ => .nil) (LV tb sub m f__law_has) [some G, some (.tup (given.map bitD)), some (.tup (held.map bitD)), some (natD e), some (seenD A ks), some (natD (e / 2)), some (.bl (decide (e % 2 = 1))), x7, x8, x9, x10, x11, x12, x13, x14] = .ok (.rt (.bl (eb A e)), [some G, some (.tup (given.map bitD)), some (.tup (held.map bitD)), some (natD e), some (seenD A ks), some (natD (e / 2)), some (.bl (decide (e % 2 = 1))), x7, x8, x9, x10, x11, x12, x13, x14]) := by
  have h1 := seen_get A ks (e / 2) h
  rw [eb_ne]
  generalize seenD A ks = S at *
  generalize bg A (e / 2) = p at *
  generalize decide (e % 2 = 1) = q at *
  simp -implicitDefEqProofs [b__law_has, h1, cmpD_ne_bl]
  try (cases p <;> cases q <;> rfl)
theorem has_head {A : List Bool} {G : D} {given held : List Bool} {e : Nat} {S : D} {m : Nat} :
    ex (match b__law_has with | .cons s _ => s | _ => .bad) (LV tb sub m f__law_has) [some G, some (.tup (given.map bitD)), some (.tup (held.map bitD)), some (natD e), some S, none, none, none, none, none, none, none, none, none, none] = .ok (.nx, [some G, some (.tup (given.map bitD)), some (.tup (held.map bitD)), some (natD e), some S, some (natD (e / 2)), some (.bl (decide (e % 2 = 1))), none, none, none, none, none, none, none, none]) := by
  have hm : bop .mod (natD e) (.int 2) = some (natD (e % 2)) := by
    rw [bop_mod (by omega)]; rfl
  have hd : bop .fdiv (natD e) (.int 2) = some (natD (e / 2)) := by
    rw [bop_fdiv (by omega) (by omega)]; rfl
  have hc : cmpD .eq (natD (e % 2)) (.int 1) = some (decide (e % 2 = 1)) := by
    rcases Nat.mod_two_eq_zero_or_one e with z | z <;> rw [z] <;> rfl
  generalize natD (e % 2) = E2 at *
  simp -implicitDefEqProofs [b__law_has, hm, hd, hc]
theorem sub_gh {given held : List Bool} {t : Nat} (h0 : 0 < t) (h1 : t ≤ given.length + held.length) : subD (.tup (given.map bitD ++ held.map bitD)) (.int ((t : Int) - 1)) = some (bitD (bg (bits0 given held) t)) := by
  rw [← List.map_append]
  have e : ((t : Int) - 1) = ((t - 1 : Nat) : Int) := by omega
  rw [e, subD_bgT (by rw [List.length_append]; omega)]
  congr 2
  unfold bits0 bg
  cases t with
  | zero => omega
  | succ t => rfl
theorem cmp_bit1 (b : Bool) : cmpD .eq (bitD b) (.int 1) = some b := by cases b <;> rfl
theorem seen_put2 (A : List Bool) {N t : Nat} {ks : List Nat} (h : Seen N ks) (ht : t < N) (hN : N < 16777216) : ∃ ks', setD (seenD A ks) (natD t) (.bl (bg A t)) = some (seenD A ks') ∧ t ∈ ks' ∧ Seen N ks' := by
  have hl := nodup_le _ ks h.nd h.lt
  by_cases hin : t ∈ ks
  · refine ⟨ks, ?_, hin, h⟩
    show (if (true && decide ((ks.map fun k => (natD k, D.bl (bg A k))).length < SZ)) = true then some (D.dic (dput (ks.map fun k => (natD k, D.bl (bg A k))) (natD t) (.bl (bg A t)))) else none) = _
    rw [if_pos (by simp [SZ]; omega)]
    unfold dput
    rw [seen_any, decide_eq_true hin]
    simp only [if_true, List.map_map, seenD]
    congr 2
    apply List.map_congr_left
    intro k _
    simp only [Function.comp_apply, deq_nat]
    by_cases e : k = t
    · subst e; simp
    · simp [e]
  · exact ⟨ks ++ [t], seen_put A ks t hin (by omega), by simp, h.add ht hin⟩
theorem run_has {g : Gt} {given held : List Bool} (h : GtOk g) (h1 : given.length = g.ins) (h2 : held.length = g.sts) : ∀ (t : Nat) (n e : Nat) (ks : List Nat), e / 2 = t → t < 1 + g.ins + g.sts + g.nds.length → Seen (1 + g.ins + g.sts + g.nds.length) ks →
    ∃ ks', Fs tb sub (n + t + 1) i__law_has [gtD g, .tup (given.map bitD), .tup (held.map bitD), natD e, seenD (allG g given held) ks] = .ok (.bl (eb (allG g given held) e), [seenD (allG g given held) ks']) ∧ Seen (1 + g.ins + g.sts + g.nds.length) ks' := by
  intro t
  induction t using Nat.strongRecOn with
  | _ t ih =>
    intro n e ks he ht hs
    have p1 := h.ins
    have p2 := h.sts
    have p3 := h.ndl
    have hks : ks.length < 16777216 := by
      have := nodup_le _ ks hs.nd hs.lt
      omega
    have hno := seen_notin (allG g given held) ks t
    by_cases hin : t ∈ ks
    · refine ⟨ks, ?_, hs⟩
      rw [call__law_has]
      have s2 : ex (match b__law_has with | .cons _ (.cons s _) => s | _ => .bad) (LV tb sub (n + t) f__law_has) [some (gtD g), some (.tup (given.map bitD)), some (.tup (held.map bitD)), some (natD e), some (seenD (allG g given held) ks), some (natD (e / 2)), some (.bl (decide (e % 2 = 1))), none, none, none, none, none, none, none, none] = .ok (.nx, [some (gtD g), some (.tup (given.map bitD)), some (.tup (held.map bitD)), some (natD e), some (seenD (allG g given held) ks), some (natD (e / 2)), some (.bl (decide (e % 2 = 1))), none, none, none, none, none, none, none, none]) := by
        rw [he]
        generalize seenD (allG g given held) ks = S at *
        generalize gtD g = G at *
        simp -implicitDefEqProofs [b__law_has, hno, hin]
      have ee : exs b__law_has (LV tb sub (n + t) f__law_has) [some (gtD g), some (.tup (given.map bitD)), some (.tup (held.map bitD)), some (natD e), some (seenD (allG g given held) ks), none, none, none, none, none, none, none, none, none, none] = _ := exs_step (has_head (A := allG g given held)) (exs_step s2 (has_tail (by rw [he]; exact hin)))
      rw [ee]
      simp
    · have hA : ∀ v, v = bg (allG g given held) t → setD (seenD (allG g given held) ks) (natD t) (.bl v) = some (seenD (allG g given held) (ks ++ [t])) := fun v hv => by rw [hv]; exact seen_put _ ks t hin hks
      have hb0 : (bits0 given held).length = 1 + g.ins + g.sts := by simp [bits0]; omega
      by_cases hsm : t ≤ g.ins + g.sts
      · refine ⟨ks ++ [t], ?_, hs.add ht hin⟩
        have hbg : bg (allG g given held) t = bg (bits0 given held) t := allB_pre _ _ (by omega)
        have hput := hA _ hbg.symm
        have s2 : ex (match b__law_has with | .cons _ (.cons s _) => s | _ => .bad) (LV tb sub (n + t) f__law_has) [some (gtD g), some (.tup (given.map bitD)), some (.tup (held.map bitD)), some (natD e), some (seenD (allG g given held) ks), some (natD (e / 2)), some (.bl (decide (e % 2 = 1))), none, none, none, none, none, none, none, none] = .ok (.nx, [some (gtD g), some (.tup (given.map bitD)), some (.tup (held.map bitD)), some (natD e), some (seenD (allG g given held) (ks ++ [t])), some (natD (e / 2)), some (.bl (decide (e % 2 = 1))), some (natD g.ins), some (natD g.sts), some (.tup (g.firsts.map bitD)), some (.tup (g.nds.map ndD)), some (.tup (g.nexts.map natD)), some (.tup (g.outs.map natD)), none, none]) := by
          rw [he]
          have hle : (t : Int) ≤ (g.ins : Int) + g.sts := by omega
          have f1 : Fit 8388608 (given.map bitD) := Fit.of (k := 8) (by simp; omega) _ (by decide)
          have f2 : Fit 8388608 (held.map bitD) := Fit.of (k := 6) (by simp; omega) _ (by decide)
          have hadd := bop_addT f1 f2
          by_cases h0 : t = 0
          · subst h0
            have hf : setD (seenD (allG g given held) ks) (natD 0) (.bl false) = some (seenD (allG g given held) (ks ++ [0])) := hA false (by rw [hbg]; rfl)
            generalize seenD (allG g given held) ks = S at *
            generalize seenD (allG g given held) (ks ++ [0]) = S' at *
            simp -implicitDefEqProofs [b__law_has, hno, hin, gtD, hle, hf]
            intro z
            omega
          · have hgt : 0 < t := by omega
            have hsub := sub_gh (given := given) (held := held) (t := t) (by omega) (by omega)
            generalize seenD (allG g given held) ks = S at *
            generalize seenD (allG g given held) (ks ++ [t]) = S' at *
            simp -implicitDefEqProofs [b__law_has, hno, hin, gtD, hle, hgt, hadd, hsub, cmp_bit1, hput]
        rw [call__law_has]
        have ee : exs b__law_has (LV tb sub (n + t) f__law_has) [some (gtD g), some (.tup (given.map bitD)), some (.tup (held.map bitD)), some (natD e), some (seenD (allG g given held) ks), none, none, none, none, none, none, none, none, none, none] = _ := exs_step (has_head (A := allG g given held)) (exs_step s2 (has_tail (by rw [he]; simp)))
        rw [ee]
        simp
      · obtain ⟨p, hp⟩ : ∃ p, g.nds[t - 1 - g.ins - g.sts]? = some p := ⟨_, List.getElem?_eq_getElem (by omega)⟩
        have hnd := h.nd _ p hp
        have hp1 : p.1 / 2 < t := by omega
        have hp2 : p.2 / 2 < t := by omega
        have hat := allB_at g.nds (bits0 given held) hp (by omega) (by omega)
        rw [show (bits0 given held).length + (t - 1 - g.ins - g.sts) = t by omega] at hat
        obtain ⟨ks1, c1, hs1⟩ := ih (p.1 / 2) hp1 (n + t - p.1 / 2 - 1) p.1 ks rfl (by omega) hs
        rw [show n + t - p.1 / 2 - 1 + p.1 / 2 + 1 = n + t by omega] at c1
        obtain ⟨ks2, c2, hs2⟩ := ih (p.2 / 2) hp2 (n + t - p.2 / 2 - 1) p.2 ks1 rfl (by omega) hs1
        rw [show n + t - p.2 / 2 - 1 + p.2 / 2 + 1 = n + t by omega] at c2
        have hidx : ((t : Int) - 1 - g.ins - g.sts) = ((t - 1 - g.ins - g.sts : Nat) : Int) := by omega
        have hsub : subD (.tup (g.nds.map ndD)) (.int ((t : Int) - 1 - g.ins - g.sts)) = some (.tup [natD p.1, natD p.2]) := by
          rw [hidx, subD_tupM hp]
          rfl
        have hle : ¬ (t : Int) ≤ (g.ins : Int) + g.sts := by omega
        have key : ∃ ks', ex (match b__law_has with | .cons _ (.cons s _) => s | _ => .bad) (LV tb sub (n + t) f__law_has) [some (gtD g), some (.tup (given.map bitD)), some (.tup (held.map bitD)), some (natD e), some (seenD (allG g given held) ks), some (natD (e / 2)), some (.bl (decide (e % 2 = 1))), none, none, none, none, none, none, none, none] = .ok (.nx, [some (gtD g), some (.tup (given.map bitD)), some (.tup (held.map bitD)), some (natD e), some (seenD (allG g given held) ks'), some (natD (e / 2)), some (.bl (decide (e % 2 = 1))), some (natD g.ins), some (natD g.sts), some (.tup (g.firsts.map bitD)), some (.tup (g.nds.map ndD)), some (.tup (g.nexts.map natD)), some (.tup (g.outs.map natD)), some (natD p.1), some (natD p.2)]) ∧ t ∈ ks' ∧ Seen (1 + g.ins + g.sts + g.nds.length) ks' := by
          rw [he]
          have e0 : gtD g = .tup [natD g.ins, natD g.sts, .tup (g.firsts.map bitD), .tup (g.nds.map ndD), .tup (g.nexts.map natD), .tup (g.outs.map natD)] := rfl
          cases hv : eb (allG g given held) p.1
          · obtain ⟨ks', q1, q2, q3⟩ := seen_put2 (allG g given held) hs1 ht (by omega)
            refine ⟨ks', ?_, q2, q3⟩
            rw [hat, hv, Bool.false_and] at q1
            rw [hv] at c1
            clear ih hat c2
            generalize seenD (allG g given held) ks = S at *
            generalize seenD (allG g given held) ks1 = S1 at *
            generalize seenD (allG g given held) ks' = S' at *
            rw [e0] at c1 ⊢
            simp -implicitDefEqProofs [b__law_has, callS, hno, hin, hle, hsub, c1, q1]
          · obtain ⟨ks', q1, q2, q3⟩ := seen_put2 (allG g given held) hs2 ht (by omega)
            refine ⟨ks', ?_, q2, q3⟩
            rw [hat, hv, Bool.true_and] at q1
            rw [hv] at c1
            clear ih hat
            generalize seenD (allG g given held) ks = S at *
            generalize seenD (allG g given held) ks1 = S1 at *
            generalize seenD (allG g given held) ks2 = S2 at *
            generalize seenD (allG g given held) ks' = S' at *
            rw [e0] at c1 c2 ⊢
            simp -implicitDefEqProofs [b__law_has, callS, hno, hin, hle, hsub, c1, c2, q1]
        obtain ⟨ks', s2, hin', hs'⟩ := key
        refine ⟨ks', ?_, hs'⟩
        rw [call__law_has]
        have ee : exs b__law_has (LV tb sub (n + t) f__law_has) [some (gtD g), some (.tup (given.map bitD)), some (.tup (held.map bitD)), some (natD e), some (seenD (allG g given held) ks), none, none, none, none, none, none, none, none, none, none] = _ := exs_step (has_head (A := allG g given held)) (exs_step s2 (has_tail (by rw [he]; exact hin')))
        rw [ee]
        simp
end
section
variable {n : Nat}
theorem told_row {g : Gt} {given held : List Bool} (h : GtOk g) (h1 : given.length = g.ins) (h2 : held.length = g.sts) {ws : List Nat} (hl : ws.length ≤ 16) (hw : ∀ w ∈ ws, w < 2 * (1 + g.ins + g.sts + g.nds.length)) {x4 : Option D} {ks : List Nat} (hs : Seen (1 + g.ins + g.sts + g.nds.length) ks) :
    ∃ ks', lcS [5] e__law_told_1 (T.var 5) Eo.none (LV tb sub (n + 1 + g.ins + g.sts + g.nds.length) f__law_told) [some (gtD g), some (.tup (given.map bitD)), some (.tup (held.map bitD)), some (seenD (allG g given held) ks), x4, none] (ws.map natD) [some (gtD g), some (.tup (given.map bitD)), some (.tup (held.map bitD)), some (seenD (allG g given held) ks), x4, none] = .ok (.lst ((outsG g given held ws).map bitD), [some (gtD g), some (.tup (given.map bitD)), some (.tup (held.map bitD)), some (seenD (allG g given held) ks'), x4, none]) ∧ Seen (1 + g.ins + g.sts + g.nds.length) ks' := by
  obtain ⟨σw, e1, ks', hs', rfl⟩ := lcS_mapI (own := [5]) (elt := e__law_told_1) (t := T.var 5) (c := Eo.none) (l := LV tb sub (n + 1 + g.ins + g.sts + g.nds.length) f__law_told) (σ0 := [some (gtD g), some (.tup (given.map bitD)), some (.tup (held.map bitD)), some (seenD (allG g given held) ks), x4, none]) (σ := [some (gtD g), some (.tup (given.map bitD)), some (.tup (held.map bitD)), some (seenD (allG g given held) ks), x4, none]) natD (fun e => bitD (eb (allG g given held) e))
    (fun σ => ∃ ks', Seen (1 + g.ins + g.sts + g.nds.length) ks' ∧ σ = [some (gtD g), some (.tup (given.map bitD)), some (.tup (held.map bitD)), some (seenD (allG g given held) ks'), x4, none]) (ys := ws) (Fit.of hl _ (by decide)) ⟨ks, hs, by simp⟩ (by
      rintro e he σw ⟨ks1, hs1, rfl⟩
      have hlt := hw e he
      obtain ⟨ks2, c1, hs2⟩ := run_has h h1 h2 (e / 2) (n + 1 + g.ins + g.sts + g.nds.length - e / 2 - 1) e ks1 rfl (by omega) hs1
      rw [show n + 1 + g.ins + g.sts + g.nds.length - e / 2 - 1 + e / 2 + 1 = n + 1 + g.ins + g.sts + g.nds.length by omega] at c1
      refine ⟨[some (gtD g), some (.tup (given.map bitD)), some (.tup (held.map bitD)), some (seenD (allG g given held) ks2), x4, none], ?_, ks2, hs2, rfl⟩
      generalize n + 1 + g.ins + g.sts + g.nds.length = m at *
      generalize seenD (allG g given held) ks1 = S1 at *
      generalize seenD (allG g given held) ks2 = S2 at *
      generalize gtD g = G at *
      cases hv : eb (allG g given held) e <;> rw [hv] at c1 <;> simp -implicitDefEqProofs [lcT, e__law_told_1, callS, c1, bitD])
  refine ⟨ks', ?_, hs'⟩
  unfold outsG
  rw [List.map_map]
  exact e1
theorem t2_1 : e__law_told_2 = e__law_told_1 := rfl
theorem run_told {g : Gt} {given held : List Bool} (h : GtOk g) (h1 : given.length = g.ins) (h2 : held.length = g.sts) : Fs tb sub (n + 1 + g.ins + g.sts + g.nds.length + 1) i__law_told [gtD g, .tup (given.map bitD), .tup (held.map bitD)] = .ok (stepG g given held, []) := by
  have p1 := h.outs.2
  have p2 := h.nexts
  have p3 := h.sts
  obtain ⟨ks1, c1, hs1⟩ := told_row (n := n) h h1 h2 (ws := g.outs) p1 h.outLt (x4 := none) (ks := []) ⟨List.nodup_nil, fun _ hk => nomatch hk⟩
  obtain ⟨ks2, c2, hs2⟩ := told_row (n := n) h h1 h2 (ws := g.nexts) (by omega) h.nextLt (x4 := some (.tup ((outsG g given held g.outs).map bitD))) hs1
  have e5 : subD (gtD g) (.int 5) = some (.tup (g.outs.map natD)) := by simp [gtD]
  have e4 : subD (gtD g) (.int 4) = some (.tup (g.nexts.map natD)) := by simp [gtD]
  have e0 : seenD (allG g given held) [] = .dic [] := rfl
  rw [e0] at c1
  rw [call__law_told]
  generalize n + 1 + g.ins + g.sts + g.nds.length = m at *
  generalize seenD (allG g given held) ks1 = S1 at *
  generalize seenD (allG g given held) ks2 = S2 at *
  generalize gtD g = G at *
  simp only [stepG]
  generalize outsG g given held g.outs = O at *
  generalize outsG g given held g.nexts = N at *
  have hic : isContainer (.dic []) = true := rfl
  simp -implicitDefEqProofs [b__law_told, hic, t2_1, e5, e4, c1, c2]
end
/-! ### random gates -/
section
variable {n : Nat}
theorem gt_turn {c : D} {ins sts at_ : Nat} {nds : List (Nat × Nat)} {x5 x6 : Option D} (b1 : ins < 4) (b2 : sts < 4) (hpre : nds.length < 13) (hat : at_ = nds.length) (hc : Cup c) (ht : ∀ i p, nds[i]? = some p → p.1 < p.2 ∧ p.2 < 2 * (1 + ins + sts + i)) :
    ∃ σ', exs l__law_gates_4 (LV tb sub (n + 1) f__law_gates) [some c, some (natD ins), some (natD sts), some (.lst (nds.map ndD)), some (natD at_), x5, x6, none, none, none, none] = .ok (.nx, σ') ∧ ∃ (c : D) (p : Nat × Nat) (x5 x6 : Option D), Cup c ∧ (∀ i q, (nds ++ [p])[i]? = some q → q.1 < q.2 ∧ q.2 < 2 * (1 + ins + sts + i)) ∧ σ' = [some c, some (natD ins), some (natD sts), some (.lst ((nds ++ [p]).map ndD)), some (natD at_), x5, x6, none, none, none, none] := by
  obtain ⟨a, c1, q1, hc1, a1⟩ := run_rollN (n := n) (k := 2 * ((1 : Int) + ins + sts + at_)) hc (by omega) (by omega)
  obtain ⟨b, c2, q2, hc2, a2⟩ := run_rollN (n := n) (k := 2 * ((1 : Int) + ins + sts + at_)) hc1 (by omega) (by omega)
  have hm : bop .mul (.int 2) (.int ((1 : Int) + ins + sts + at_)) = some (.int (2 * ((1 : Int) + ins + sts + at_))) := bop_mul (.inl (by omega))
  have hso := biD_sortN (l := [a, b]) (by simp)
  have hf : Fit 16777215 (nds.map ndD) := Fit.of (k := 13) (by simp; omega) _ (by decide)
  obtain ⟨lo, hi, e1, e2, e3⟩ : ∃ lo hi, sortN [a, b] = [lo, hi] ∧ lo ≤ hi ∧ (hi : Int) < 2 * ((1 : Int) + ins + sts + at_) := by
    by_cases hab : a ≤ b
    · exact ⟨a, b, by show insN a [b] = _; unfold insN; rw [if_pos hab], hab, by omega⟩
    · exact ⟨b, a, by show insN a [b] = _; unfold insN; rw [if_neg hab]; rfl, by omega, by omega⟩
  rw [e1] at hso
  have hso : biD .sorted [.lst [natD a, natD b]] = some (.lst [natD lo, natD hi]) := hso
  have hp : ∀ p : Nat × Nat, p.1 < p.2 → p.2 < 2 * (1 + ins + sts + at_) → ∀ i q, (nds ++ [p])[i]? = some q → q.1 < q.2 ∧ q.2 < 2 * (1 + ins + sts + i) := fun p l1 l2 i q hi => by
    rcases Nat.lt_or_ge i nds.length with z | z
    · rw [List.getElem?_append_left z] at hi
      exact ht i q hi
    · rw [List.getElem?_append_right z] at hi
      have hi0 : i - nds.length = 0 := by
        have := (List.getElem?_eq_some_iff.mp hi).1
        simpa using this
      rw [hi0] at hi
      simp at hi
      subst hi
      exact ⟨l1, by rw [show i = at_ by omega]; exact l2⟩
  by_cases hlt : lo < hi
  · refine ⟨[some c2, some (natD ins), some (natD sts), some (.lst ((nds ++ [(lo, hi)]).map ndD)), some (natD at_), some (.int (2 * ((1 : Int) + ins + sts + at_))), some (.lst [natD lo, natD hi]), none, none, none, none], ?_, c2, (lo, hi), _, _, hc2, hp _ hlt (by show hi < _; omega), rfl⟩
    have hlt' : (lo : Int) < hi := by omega
    simp -implicitDefEqProofs [l__law_gates_4, callS, hm, q1, q2, hso, hlt', hlt, mmD_append hf, ndD]
  · refine ⟨[some c2, some (natD ins), some (natD sts), some (.lst ((nds ++ [(0, 1)]).map ndD)), some (natD at_), some (.int (2 * ((1 : Int) + ins + sts + at_))), some (.lst [natD lo, natD hi]), none, none, none, none], ?_, c2, (0, 1), _, _, hc2, hp _ (by decide) (by show 1 < _; omega), rfl⟩
    have hlt' : ¬ (lo : Int) < hi := by omega
    simp -implicitDefEqProofs [l__law_gates_4, callS, hm, q1, q2, hso, hlt', hlt, mmD_append hf, ndD]
end
section
variable {n : Nat}
def NdsOk (k : Nat) (nds : List (Nat × Nat)) : Prop := ∀ i p, nds[i]? = some p → p.1 < p.2 ∧ p.2 < 2 * (1 + k + i)
theorem gt_nodes {c3 : D} {ins sts more : Nat} (b1 : ins < 4) (b2 : sts < 4) (b3 : more < 13) (hc3 : Cup c3) : ∃ σ', forS (T.var 4) l__law_gates_4 (LV tb sub (n + 1) f__law_gates) ((List.range more).map natD) [some c3, some (natD ins), some (natD sts), some (.lst []), none, none, none, none, none, none, none] = .ok (.nx, σ') ∧
    ∃ (c : D) (nds : List (Nat × Nat)) (g4 g5 g6 : Option D), Cup c ∧ NdsOk (ins + sts) nds ∧ nds.length = (List.range more).length ∧ σ' = [some c, some (natD ins), some (natD sts), some (.lst (nds.map ndD)), g4, g5, g6, none, none, none, none] :=
  forS_inv (t := T.var 4) (l := LV tb sub (n + 1) f__law_gates) (b := l__law_gates_4) (ys := List.range more) (σ := [some c3, some (natD ins), some (natD sts), some (.lst []), none, none, none, none, none, none, none]) natD
    (fun pre σ => ∃ (c : D) (nds : List (Nat × Nat)) (g4 g5 g6 : Option D), Cup c ∧ NdsOk (ins + sts) nds ∧ nds.length = pre.length ∧ σ = [some c, some (natD ins), some (natD sts), some (.lst (nds.map ndD)), g4, g5, g6, none, none, none, none]) ⟨c3, [], none, none, none, hc3, fun i t h => by simp at h, rfl, rfl⟩ (by
      rintro pre at_ post σ e ⟨c, nds, g4, g5, g6, hc, ht, hl, rfl⟩
      have hat : at_ = pre.length ∧ pre.length < 13 := by
        have h1 : (List.range more)[pre.length]? = some at_ := by rw [e]; simp
        have h2 := List.getElem?_eq_some_iff.mp h1
        obtain ⟨h3, h4⟩ := h2
        simp at h3 h4
        omega
      obtain ⟨hat, hpre⟩ := hat
      obtain ⟨σ', h1, c', p, x5, x6, h2, h3, h4⟩ := gt_turn (n := n) (x5 := g5) (x6 := g6) b1 b2 (by omega : nds.length < 13) (by omega : at_ = nds.length) hc (fun i p hp => by have := ht i p hp; omega)
      refine ⟨σ', ?_, c', nds ++ [p], some (natD at_), x5, x6, h2, fun i q hq => by have := h3 i q hq; omega, by simp [hl], h4⟩
      simp -implicitDefEqProofs only [asg_var, bind_ok, List.set_cons_succ, List.set_cons_zero]
      exact h1)
theorem gt_nexts {c0 c4 : D} {d1 d2 d3 : D} {g4 g6 : Option D} {sts wires : Nat} (b2 : sts < 4) (hw : 0 < wires) (hwl : wires ≤ 100) (hc4 : Cup c4) : ∃ (nexts : List Nat) (σw : Sd), lcS [8] e__law_gates_3 (T.var 8) Eo.none (LV tb sub (n + 1) f__law_gates) [some c0, some d1, some d2, some d3, g4, some (natD wires), g6, none, none, none, none] ((List.range sts).map natD) [some c4, some d1, some d2, some d3, g4, some (natD wires), g6, none, none, none, none] = .ok (.lst (nexts.map natD), σw) ∧ (∃ c : D, Cup c ∧ σw = [some c, some d1, some d2, some d3, g4, some (natD wires), g6, none, none, none, none]) ∧ nexts.length = sts ∧ ∀ w ∈ nexts, w < wires := by
  obtain ⟨nexts, σn, t1, t2, t3, t4⟩ := lcS_draw (own := [8]) (elt := e__law_gates_3) (t := T.var 8) (c := Eo.none) (l := LV tb sub (n + 1) f__law_gates) (σ0 := [some c0, some d1, some d2, some d3, g4, some (natD wires), g6, none, none, none, none]) (σ := [some c4, some d1, some d2, some d3, g4, some (natD wires), g6, none, none, none, none]) natD natD (fun w => w < wires)
    (fun σw => ∃ c : D, Cup c ∧ σw = [some c, some d1, some d2, some d3, g4, some (natD wires), g6, none, none, none, none]) (ys := List.range sts) (Fit.of (k := 3) (by simp; omega) _ (by decide)) ⟨c4, hc4, by simp⟩ (by
      rintro j hj σw ⟨c, hc, rfl⟩
      obtain ⟨b, c', q1, q2, q3⟩ := run_rollN (n := n) (k := (wires : Int)) hc (by omega) (by omega)
      exact ⟨b, _, by simp [lcT, e__law_gates_3, callS, q1], by omega, c', q2, rfl⟩)
  obtain ⟨c, hc, rfl⟩ := t2
  exact ⟨nexts, _, t1, ⟨c, hc, rfl⟩, by simpa using t3, t4⟩
theorem gt_outs {c4 c0 : D} {d1 d2 d3 d7 : D} {g4 g6 : Option D} {no wires : Nat} (b2 : no < 4) (hw : 0 < wires) (hwl : wires ≤ 100) (hc4 : Cup c4) : ∃ (outs : List Nat) (σw : Sd), lcS [10] e__law_gates_2 (T.var 10) Eo.none (LV tb sub (n + 1) f__law_gates) [some c0, some d1, some d2, some d3, g4, some (natD wires), g6, some d7, none, none, none] ((List.range (1 + no)).map natD) [some c4, some d1, some d2, some d3, g4, some (natD wires), g6, some d7, none, none, none] = .ok (.lst (outs.map natD), σw) ∧ (∃ c : D, Cup c ∧ σw = [some c, some d1, some d2, some d3, g4, some (natD wires), g6, some d7, none, none, none]) ∧ outs.length = 1 + no ∧ ∀ w ∈ outs, w < wires := by
  obtain ⟨nexts, σn, t1, t2, t3, t4⟩ := lcS_draw (own := [10]) (elt := e__law_gates_2) (t := T.var 10) (c := Eo.none) (l := LV tb sub (n + 1) f__law_gates) (σ0 := [some c0, some d1, some d2, some d3, g4, some (natD wires), g6, some d7, none, none, none]) (σ := [some c4, some d1, some d2, some d3, g4, some (natD wires), g6, some d7, none, none, none]) natD natD (fun w => w < wires)
    (fun σw => ∃ c : D, Cup c ∧ σw = [some c, some d1, some d2, some d3, g4, some (natD wires), g6, some d7, none, none, none]) (ys := List.range (1 + no)) (Fit.of (k := 4) (by simp; omega) _ (by decide)) ⟨c4, hc4, by simp⟩ (by
      rintro j hj σw ⟨c, hc, rfl⟩
      obtain ⟨b, c', q1, q2, q3⟩ := run_rollN (n := n) (k := (wires : Int)) hc (by omega) (by omega)
      exact ⟨b, _, by simp [lcT, e__law_gates_2, callS, q1], by omega, c', q2, rfl⟩)
  obtain ⟨c, hc, rfl⟩ := t2
  exact ⟨nexts, _, t1, ⟨c, hc, rfl⟩, by simpa using t3, t4⟩
theorem gt_firsts {c4 : D} {d1 d2 d3 d5 d7 d9 : D} {g4 g6 : Option D} {sts : Nat} (b2 : sts < 4) (hc4 : Cup c4) : ∃ (firsts : List Bool) (σw : Sd), lcS [8] e__law_gates_1 (T.var 8) Eo.none (LV tb sub (n + 1) f__law_gates) [some c4, some d1, some d2, some d3, g4, some d5, g6, some d7, none, some d9, none] ((List.range sts).map natD) [some c4, some d1, some d2, some d3, g4, some d5, g6, some d7, none, some d9, none] = .ok (.lst (firsts.map bitD), σw) ∧ (∃ c : D, Cup c ∧ σw = [some c, some d1, some d2, some d3, g4, some d5, g6, some d7, none, some d9, none]) ∧ firsts.length = sts := by
  obtain ⟨bs, σn, t1, t2, t3, t4⟩ := lcS_draw (own := [8]) (elt := e__law_gates_1) (t := T.var 8) (c := Eo.none) (l := LV tb sub (n + 1) f__law_gates) (σ0 := [some c4, some d1, some d2, some d3, g4, some d5, g6, some d7, none, some d9, none]) (σ := [some c4, some d1, some d2, some d3, g4, some d5, g6, some d7, none, some d9, none]) natD bitD (fun _ => True)
    (fun σw => ∃ c : D, Cup c ∧ σw = [some c, some d1, some d2, some d3, g4, some d5, g6, some d7, none, some d9, none]) (ys := List.range sts) (Fit.of (k := 3) (by simp; omega) _ (by decide)) ⟨c4, hc4, by simp⟩ (by
      rintro j hj σw ⟨c, hc, rfl⟩
      obtain ⟨b, c', q1, q2⟩ := run_rollB (n := n) hc
      exact ⟨b, _, by simp [lcT, e__law_gates_1, callS, q1], trivial, c', q2, rfl⟩)
  obtain ⟨c, hc, rfl⟩ := t2
  exact ⟨bs, _, t1, ⟨c, hc, rfl⟩, by simpa using t3⟩
theorem run_gates {c : D} (hc : Cup c) : ∃ (g : Gt) (c' : D), Fs tb sub (n + 2) i__law_gates [c] = .ok (gtD g, [c']) ∧ Cup c' ∧ GtOk g ∧ g.ins ≤ 3 ∧ g.sts ≤ 3 ∧ g.nds.length ≤ 12 := by
  obtain ⟨ins, c1, a1, hc1, b1⟩ := run_rollN (n := n) (k := 4) hc (by decide) (by decide)
  obtain ⟨sts, c2, a2, hc2, b2⟩ := run_rollN (n := n) (k := 4) hc1 (by decide) (by decide)
  obtain ⟨more, c3, a3, hc3, b3⟩ := run_rollN (n := n) (k := 13) hc2 (by decide) (by decide)
  obtain ⟨σ', e1, c4, nds, g4, g5, g6, hc4, ht, hl4, e2⟩ := gt_nodes (n := n) (more := more) (by omega) (by omega) (by omega) hc3 (ins := ins) (sts := sts)
  subst e2
  simp at hl4
  have hwp : 0 < 2 * (1 + ins + sts + nds.length) := by omega
  have hwl : 2 * (1 + ins + sts + nds.length) ≤ 100 := by omega
  have hm : bop .mul (.int 2) (.int ((1 : Int) + ins + sts + nds.length)) = some (natD (2 * (1 + ins + sts + nds.length))) := by
    rw [bop_mul (.inl (by omega))]
    show some (D.int _) = some (D.int _)
    congr 2
  generalize hwi : 2 * (1 + ins + sts + nds.length) = wires at hwp hwl hm
  obtain ⟨nexts, σn, t1, ⟨c5, hc5, t2⟩, t3, t4⟩ := gt_nexts (n := n) (c0 := c4) (d1 := natD ins) (d2 := natD sts) (d3 := .lst (nds.map ndD)) (g4 := g4) (g6 := g6) (sts := sts) (by omega) hwp hwl hc4
  subst t2
  obtain ⟨no, c6, a4, hc6, b4⟩ := run_rollN (n := n) (k := 4) hc5 (by decide) (by decide)
  obtain ⟨outs, σo, u1, ⟨c7, hc7, u2⟩, u3, u4⟩ := gt_outs (n := n) (c0 := c5) (d1 := natD ins) (d2 := natD sts) (d3 := .lst (nds.map ndD)) (d7 := .tup (nexts.map natD)) (g4 := g4) (g6 := g6) (no := no) (by omega) hwp hwl hc6
  subst u2
  obtain ⟨firsts, σf, v1, ⟨c8, hc8, v2⟩, v3⟩ := gt_firsts (n := n) (d1 := natD ins) (d2 := natD sts) (d3 := .lst (nds.map ndD)) (d5 := natD wires) (d7 := .tup (nexts.map natD)) (d9 := .tup (outs.map natD)) (g4 := g4) (g6 := g6) (sts := sts) (by omega) hc7
  subst v2
  have hr1 : rangeL 0 (more : Int) = (List.range more).map natD := rangeL_of rfl
  have hr2 : rangeL 0 (sts : Int) = (List.range sts).map natD := rangeL_of rfl
  have hr3 : rangeL 0 ((1 : Int) + no) = (List.range (1 + no)).map natD := rangeL_of (by omega)
  have o1 := rngOk_of (i := (more : Int)) (by omega) (by omega)
  have o2 := rngOk_of (i := (sts : Int)) (by omega) (by omega)
  have o3 := rngOk_of (i := (1 : Int) + no) (by omega) (by omega)
  refine ⟨⟨ins, sts, firsts, nds, nexts, outs⟩, c8, ?_, hc8, ⟨by show ins ≤ 8; omega, by show sts ≤ 6; omega, v3, by show nds.length ≤ 400; omega, fun i p hp => by have := ht i p hp; show p.1 < p.2 ∧ p.2 < 2 * (1 + ins + sts + i); omega, t3, fun w hw => by have := t4 w hw; show w < 2 * (1 + ins + sts + nds.length); omega, by show 1 ≤ outs.length ∧ outs.length ≤ 16; omega, fun w hw => by have := u4 w hw; show w < 2 * (1 + ins + sts + nds.length); omega⟩, by show ins ≤ 3; omega, by show sts ≤ 3; omega, by show nds.length ≤ 12; omega⟩
  rw [call__law_gates]
  simp -implicitDefEqProofs [b__law_gates, callS, a1, a2, a3, hr1, o1, e1, hr2, o2, hm, t1, a4, hr3, o3, u1, v1, gtD]
end
/-! ### random gates go right -/
theorem cut_head (xs : List D) (k : Nat) : cut xs none (some (k : Int)) = xs.take k := by
  unfold cut six
  simp only [List.drop_zero, Nat.sub_zero]
  rw [if_neg (by omega)]
  simp only [Int.toNat_natCast]
  rcases Nat.le_total k xs.length with h | h
  · rw [Nat.min_eq_left h]
  · rw [Nat.min_eq_right h, List.take_of_length_le (Nat.le_refl _), List.take_of_length_le h]
theorem range_bg (A : List Bool) : (List.range A.length).map (fun k => bg A k) = A := by
  apply List.ext_getElem
  · simp
  · intro i h1 h2
    simp only [List.getElem_map, List.getElem_range]
    unfold bg
    rw [List.getD_eq_getElem?_getD, List.getElem?_eq_getElem h2]
    rfl
theorem goG_take (g : Gt) (word : List (List Bool)) (k : Nat) (hk : k ≤ word.length) (held : List Bool) : (goG g (word.take k) held).1 = ((goG g word held).1).take k := by
  have key : ∀ (b : List (List Bool)) (q : List (List Bool) × List Bool), ∃ r, (b.foldl (fun q given => (q.1 ++ [outsG g given q.2 g.outs], outsG g given q.2 g.nexts)) q).1 = q.1 ++ r := by
    intro b
    induction b with
    | nil => intro q; exact ⟨[], by simp⟩
    | cons x b ih =>
      intro q
      rw [List.foldl_cons]
      obtain ⟨r, hr⟩ := ih (q.1 ++ [outsG g x q.2 g.outs], outsG g x q.2 g.nexts)
      exact ⟨outsG g x q.2 g.outs :: r, by rw [hr]; simp⟩
  obtain ⟨r, hr⟩ := key (word.drop k) (goG g (word.take k) held)
  have e : goG g word held = (word.drop k).foldl (fun q given => (q.1 ++ [outsG g given q.2 g.outs], outsG g given q.2 g.nexts)) (goG g (word.take k) held) := by
    conv => lhs; rw [← List.take_append_drop k word]
    unfold goG
    rw [List.foldl_append]
  rw [e, hr]
  have hl : (goG g (word.take k) held).1.length = k := by rw [goG_len, List.length_take]; omega
  rw [List.take_append_of_le_length (by omega), List.take_of_length_le (l := (goG g (word.take k) held).1) (by omega)]
section
variable {n : Nat}
theorem gr_draw {c0 c : D} {x1 x2 x3 x4 x5 x7 x8 x9 x10 x11 x12 x13 x14 x15 : Option D} {m : Nat} (hm : m ≤ 3) (hc : Cup c) : ∃ (bs : List Bool) (σw : Sd), lcS [6] e__law_gates_right_6 (T.var 6) Eo.none (LV tb sub (n + 1) f__law_gates_right) [some c0, x1, x2, x3, x4, x5, none, x7, x8, x9, x10, x11, x12, x13, x14, x15] ((List.range m).map natD) [some c, x1, x2, x3, x4, x5, none, x7, x8, x9, x10, x11, x12, x13, x14, x15] = .ok (.lst (bs.map bitD), σw) ∧ (∃ c' : D, Cup c' ∧ σw = [some c', x1, x2, x3, x4, x5, none, x7, x8, x9, x10, x11, x12, x13, x14, x15]) ∧ bs.length = m := by
  obtain ⟨bs, σn, t1, t2, t3, t4⟩ := lcS_draw (own := [6]) (elt := e__law_gates_right_6) (t := T.var 6) (c := Eo.none) (l := LV tb sub (n + 1) f__law_gates_right) (σ0 := [some c0, x1, x2, x3, x4, x5, none, x7, x8, x9, x10, x11, x12, x13, x14, x15]) (σ := [some c, x1, x2, x3, x4, x5, none, x7, x8, x9, x10, x11, x12, x13, x14, x15]) natD bitD (fun _ => True)
    (fun σw => ∃ c : D, Cup c ∧ σw = [some c, x1, x2, x3, x4, x5, none, x7, x8, x9, x10, x11, x12, x13, x14, x15]) (ys := List.range m) (Fit.of (k := 3) (by simpa using hm) _ (by decide)) ⟨c, hc, by simp⟩ (by
      rintro j hj σw ⟨c, hc, rfl⟩
      obtain ⟨b, c', q1, q2⟩ := run_rollB (n := n) hc
      exact ⟨b, _, by simp [lcT, e__law_gates_right_6, callS, q1], trivial, c', q2, rfl⟩)
  obtain ⟨c, hc, rfl⟩ := t2
  exact ⟨bs, _, t1, ⟨c, hc, rfl⟩, by simpa using t3⟩
theorem g6_5 : e__law_gates_right_5 = e__law_gates_right_6 := rfl
theorem g6_2 : e__law_gates_right_2 = e__law_gates_right_6 := rfl
theorem gr_things {g : Gt} {given held : List Bool} (h : GtOk g) (h1 : given.length = g.ins) (h2 : held.length = g.sts) (hm : g.ins + g.sts + g.nds.length ≤ 20) {x0 x2 x3 x4 x9 : Option D} : ∃ S, lcS [10] e__law_gates_right_4 (T.var 10) Eo.none (LV tb sub (n + 24) f__law_gates_right) [x0, some (gtD g), x2, x3, x4, some (.tup (given.map bitD)), none, some (.tup (held.map bitD)), some (.dic []), x9, none, none, none, none, none, none] ((List.range (1 + g.ins + g.sts + g.nds.length)).map natD) [x0, some (gtD g), x2, x3, x4, some (.tup (given.map bitD)), none, some (.tup (held.map bitD)), some (.dic []), x9, none, none, none, none, none, none] = .ok (.lst ((allG g given held).map bitD), [x0, some (gtD g), x2, x3, x4, some (.tup (given.map bitD)), none, some (.tup (held.map bitD)), some S, x9, none, none, none, none, none, none]) := by
  obtain ⟨σw, e1, ks', hs', rfl⟩ := lcS_mapI (own := [10]) (elt := e__law_gates_right_4) (t := T.var 10) (c := Eo.none) (l := LV tb sub (n + 24) f__law_gates_right) (σ0 := [x0, some (gtD g), x2, x3, x4, some (.tup (given.map bitD)), none, some (.tup (held.map bitD)), some (.dic []), x9, none, none, none, none, none, none]) (σ := [x0, some (gtD g), x2, x3, x4, some (.tup (given.map bitD)), none, some (.tup (held.map bitD)), some (.dic []), x9, none, none, none, none, none, none]) natD (fun k => bitD (bg (allG g given held) k))
    (fun σ => ∃ ks', Seen (1 + g.ins + g.sts + g.nds.length) ks' ∧ σ = [x0, some (gtD g), x2, x3, x4, some (.tup (given.map bitD)), none, some (.tup (held.map bitD)), some (seenD (allG g given held) ks'), x9, none, none, none, none, none, none]) (ys := List.range (1 + g.ins + g.sts + g.nds.length)) (Fit.of (k := 100) (by simp; omega) _ (by decide)) ⟨[], ⟨List.nodup_nil, fun _ hk => nomatch hk⟩, by simp [seenD]⟩ (by
      rintro t ht σw ⟨ks1, hs1, rfl⟩
      have hlt := List.mem_range.mp ht
      have he : 2 * t / 2 = t := by omega
      obtain ⟨ks2, c1, hs2⟩ := run_has h h1 h2 t (n + 24 - t - 1) (2 * t) ks1 he (by omega) hs1
      rw [show n + 24 - t - 1 + t + 1 = n + 24 by omega] at c1
      have hev : eb (allG g given held) (2 * t) = bg (allG g given held) t := by
        unfold eb
        rw [if_pos (by omega), he]
      rw [hev] at c1
      have hm2 : bop .mul (.int 2) (natD t) = some (natD (2 * t)) := by
        show bop .mul (.int 2) (.int (t : Int)) = _
        rw [bop_mul (.inl (by omega))]
        show some (D.int _) = some (D.int _)
        congr 2
      refine ⟨[x0, some (gtD g), x2, x3, x4, some (.tup (given.map bitD)), none, some (.tup (held.map bitD)), some (seenD (allG g given held) ks2), x9, none, none, none, none, none, none], ?_, ks2, hs2, rfl⟩
      generalize seenD (allG g given held) ks1 = S1 at *
      generalize seenD (allG g given held) ks2 = S2 at *
      generalize gtD g = G at *
      cases hv : bg (allG g given held) t <;> rw [hv] at c1 <;> simp -implicitDefEqProofs [lcT, e__law_gates_right_4, callS, hm2, c1, bitD])
  refine ⟨seenD (allG g given held) ks', ?_⟩
  have hl : (allG g given held).length = 1 + g.ins + g.sts + g.nds.length := by rw [allB_len]; simp [bits0]; omega
  have e2 : (List.range (1 + g.ins + g.sts + g.nds.length)).map (fun k => bitD (bg (allG g given held) k)) = (allG g given held).map bitD := by
    conv => rhs; rw [← range_bg (allG g given held), List.map_map, hl]
    rfl
  rw [e2] at e1
  exact e1
theorem lks_bits (k : Nat) (bs : List Bool) : lkds k (bs.map bitD) = true := lks_map fun _ _ => by simp [bitD]
theorem like_turn {g : Gt} {given held : List Bool} (h : GtOk g) (hb : given.length + held.length ≤ 100) : lkd 3 (.lst [stepG g given held, .tup ((allG g given held).map bitD)]) = true := by
  have p1 := h.outs.2
  have p2 := h.nexts
  have p3 := h.sts
  have p4 := h.ndl
  simp [stepG, lks_bits, outsG, allB_len, bits0]
  exact ⟨⟨⟨by omega, lks_map fun _ _ => by simp [bitD]⟩, by omega, lks_map fun _ _ => by simp [bitD]⟩, by omega⟩
end
section
variable {n : Nat}
theorem told_at {g : Gt} {given held : List Bool} (h : GtOk g) (h1 : given.length = g.ins) (h2 : held.length = g.sts) (hm : g.ins + g.sts + g.nds.length ≤ 20) : Fs tb sub (n + 24) i__law_told [gtD g, .tup (given.map bitD), .tup (held.map bitD)] = .ok (stepG g given held, []) := by
  have := run_told (n := n + 24 - 2 - g.ins - g.sts - g.nds.length) h h1 h2
  rw [show n + 24 - 2 - g.ins - g.sts - g.nds.length + 1 + g.ins + g.sts + g.nds.length + 1 = n + 24 by omega] at this
  exact this
theorem gr_turn {g : Gt} {c : D} (h : GtOk g) (h3 : g.ins ≤ 3) (h4 : g.sts ≤ 3) (hm : g.ins + g.sts + g.nds.length ≤ 20) (hc : Cup c) {x4 x5 x7 x8 x9 : Option D} :
    ∃ σ', exs l__law_gates_right_7 (LV tb sub (n + 24) f__law_gates_right) [some c, some (gtD g), some (natD g.ins), some (natD g.sts), x4, x5, none, x7, x8, x9, none, none, none, none, none, none] = .ok (.nx, σ') ∧ ∃ (c' : D) (x5 x7 x8 x9 : Option D), Cup c' ∧ σ' = [some c', some (gtD g), some (natD g.ins), some (natD g.sts), x4, x5, none, x7, x8, x9, none, none, none, none, none, none] := by
  obtain ⟨given, σ1, d1, ⟨c1, hc1, rfl⟩, hg⟩ := gr_draw (n := n + 23) (c0 := c) (c := c) (x1 := some (gtD g)) (x2 := some (natD g.ins)) (x3 := some (natD g.sts)) (x4 := x4) (x5 := x5) (x7 := x7) (x8 := x8) (x9 := x9) (x10 := none) (x11 := none) (x12 := none) (x13 := none) (x14 := none) (x15 := none) h3 hc
  obtain ⟨held, σ2, d2, ⟨c2, hc2, rfl⟩, hh⟩ := gr_draw (n := n + 23) (c0 := c1) (c := c1) (x1 := some (gtD g)) (x2 := some (natD g.ins)) (x3 := some (natD g.sts)) (x4 := x4) (x5 := some (.tup (given.map bitD))) (x7 := x7) (x8 := x8) (x9 := x9) (x10 := none) (x11 := none) (x12 := none) (x13 := none) (x14 := none) (x15 := none) h4 hc1
  obtain ⟨S, d3⟩ := gr_things (n := n) (x0 := some c2) (x2 := some (natD g.ins)) (x3 := some (natD g.sts)) (x4 := x4) (x9 := x9) h hg hh hm
  have a1 := told_at (n := n) h hg hh hm
  have a2 := run_gates_step (n := n + 18) h hg hh
  have a3 : Fs tb sub (n + 24) i_gates_bits [gtD g, .tup (given.map bitD), .tup (held.map bitD)] = .ok (.tup ((allG g given held).map bitD), []) := run_gates_bits (n := n + 18) h hg hh
  have a4 := run_like (n := n + 19) 3 _ (like_turn (given := given) (held := held) h (by omega))
  have hr1 : rangeL 0 (g.ins : Int) = (List.range g.ins).map natD := rangeL_of rfl
  have hr2 : rangeL 0 (g.sts : Int) = (List.range g.sts).map natD := rangeL_of rfl
  have hr3 : rangeL 0 ((1 : Int) + g.ins + g.sts + g.nds.length) = (List.range (1 + g.ins + g.sts + g.nds.length)).map natD := rangeL_of (by omega)
  have o1 := rngOk_of (i := (g.ins : Int)) (by omega) (by omega)
  have o2 := rngOk_of (i := (g.sts : Int)) (by omega) (by omega)
  have o3 := rngOk_of (i := (1 : Int) + g.ins + g.sts + g.nds.length) (by omega) (by omega)
  have e3 : subD (gtD g) (.int 3) = some (.tup (g.nds.map ndD)) := by simp [gtD]
  have hic : isContainer (.dic []) = true := rfl
  refine ⟨[some c2, some (gtD g), some (natD g.ins), some (natD g.sts), x4, some (.tup (given.map bitD)), none, some (.tup (held.map bitD)), some S, some (.tup ((allG g given held).map bitD)), none, none, none, none, none, none], ?_, c2, _, _, _, _, hc2, rfl⟩
  generalize allG g given held = A at *
  generalize stepG g given held = T at *
  generalize gtD g = G at *
  simp -implicitDefEqProofs [l__law_gates_right_7, callS, g6_5, hic, hr1, hr2, hr3, o1, o2, o3, d1, d2, d3, e3, a1, a2, a3, a4]
theorem gr_turns {g : Gt} {c : D} (h : GtOk g) (h3 : g.ins ≤ 3) (h4 : g.sts ≤ 3) (hm : g.ins + g.sts + g.nds.length ≤ 20) (hc : Cup c) :
    ∃ σ', forS (T.var 4) l__law_gates_right_7 (LV tb sub (n + 24) f__law_gates_right) ((List.range 4).map natD) [some c, some (gtD g), some (natD g.ins), some (natD g.sts), none, none, none, none, none, none, none, none, none, none, none, none] = .ok (.nx, σ') ∧ ∃ (c' : D) (x4 x5 x7 x8 x9 : Option D), Cup c' ∧ σ' = [some c', some (gtD g), some (natD g.ins), some (natD g.sts), x4, x5, none, x7, x8, x9, none, none, none, none, none, none] :=
  forS_inv (t := T.var 4) (l := LV tb sub (n + 24) f__law_gates_right) (b := l__law_gates_right_7) (ys := List.range 4) (σ := [some c, some (gtD g), some (natD g.ins), some (natD g.sts), none, none, none, none, none, none, none, none, none, none, none, none]) natD
    (fun pre σ => ∃ (c' : D) (x4 x5 x7 x8 x9 : Option D), Cup c' ∧ σ = [some c', some (gtD g), some (natD g.ins), some (natD g.sts), x4, x5, none, x7, x8, x9, none, none, none, none, none, none]) ⟨c, _, _, _, _, _, hc, rfl⟩ (by
      rintro pre t post σ e ⟨c, x4, x5, x7, x8, x9, hc, rfl⟩
      obtain ⟨σ', h1, c', y5, y7, y8, y9, h2, h5⟩ := gr_turn (n := n) (x4 := some (natD t)) (x5 := x5) (x7 := x7) (x8 := x8) (x9 := x9) h h3 h4 hm hc
      refine ⟨σ', ?_, c', some (natD t), y5, y7, y8, y9, h2, h5⟩
      simp -implicitDefEqProofs only [asg_var, bind_ok, List.set_cons_succ, List.set_cons_zero]
      exact h1)
theorem gr_word {g : Gt} {c0 c : D} {x3 x4 x5 x7 x8 x9 : Option D} {m : Nat} (h3 : g.ins ≤ 3) (hm : m ≤ 8) (hc : Cup c) : ∃ (word : List (List Bool)) (σw : Sd), lcS [12] e__law_gates_right_3 (T.var 12) Eo.none (LV tb sub (n + 1) f__law_gates_right) [some c0, some (gtD g), some (natD g.ins), x3, x4, x5, none, x7, x8, x9, none, none, none, none, none, none] ((List.range m).map natD) [some c, some (gtD g), some (natD g.ins), x3, x4, x5, none, x7, x8, x9, none, none, none, none, none, none] = .ok (.lst (rowsD word), σw) ∧ (∃ c' : D, Cup c' ∧ σw = [some c', some (gtD g), some (natD g.ins), x3, x4, x5, none, x7, x8, x9, none, none, none, none, none, none]) ∧ word.length = m ∧ ∀ r ∈ word, r.length = g.ins := by
  obtain ⟨word, σn, t1, t2, t3, t4⟩ := lcS_draw (own := [12]) (elt := e__law_gates_right_3) (t := T.var 12) (c := Eo.none) (l := LV tb sub (n + 1) f__law_gates_right) (σ0 := [some c0, some (gtD g), some (natD g.ins), x3, x4, x5, none, x7, x8, x9, none, none, none, none, none, none]) (σ := [some c, some (gtD g), some (natD g.ins), x3, x4, x5, none, x7, x8, x9, none, none, none, none, none, none]) natD (fun r : List Bool => D.tup (r.map bitD)) (fun r => r.length = g.ins)
    (fun σw => ∃ c : D, Cup c ∧ σw = [some c, some (gtD g), some (natD g.ins), x3, x4, x5, none, x7, x8, x9, none, none, none, none, none, none]) (ys := List.range m) (Fit.of (k := 8) (by simpa using hm) _ (by decide)) ⟨c, hc, by simp⟩ (by
      rintro j hj σw ⟨c, hc, rfl⟩
      obtain ⟨bs, σ1, d1, ⟨c1, hc1, rfl⟩, hg⟩ := gr_draw (n := n) (c0 := c) (c := c) (x1 := some (gtD g)) (x2 := some (natD g.ins)) (x3 := x3) (x4 := x4) (x5 := x5) (x7 := x7) (x8 := x8) (x9 := x9) (x10 := none) (x11 := none) (x12 := some (natD j)) (x13 := none) (x14 := none) (x15 := none) h3 hc
      have hr1 : rangeL 0 (g.ins : Int) = (List.range g.ins).map natD := rangeL_of rfl
      have o1 := rngOk_of (i := (g.ins : Int)) (by omega) (by omega)
      generalize gtD g = G at *
      exact ⟨bs, _, by
        simp -implicitDefEqProofs [lcT, e__law_gates_right_3, g6_2, hr1, o1]
        erw [d1]
        simp, hg, c1, hc1, rfl⟩)
  obtain ⟨c, hc, rfl⟩ := t2
  exact ⟨word, _, t1, ⟨c, hc, rfl⟩, by simpa using t3, t4⟩
theorem gr_go {g : Gt} {c : D} {x2 x3 x4 x5 x8 x9 : Option D} {word : List (List Bool)} (h : GtOk g) (h3 : g.ins ≤ 3) (h4 : g.sts ≤ 3) (hm : g.ins + g.sts + g.nds.length ≤ 20) (hw : word.length ≤ 200) (hr : ∀ r ∈ word, r.length = g.ins) :
    ∃ σ', forS (T.var 5) l__law_gates_right_1 (LV tb sub (n + 24) f__law_gates_right) (rowsD word) [some c, some (gtD g), x2, x3, x4, x5, none, some (.tup (g.firsts.map bitD)), x8, x9, none, some (.tup (rowsD word)), none, some (.lst []), none, none] = .ok (.nx, σ') ∧ ∃ x5 x7 x14 : Option D, σ' = [some c, some (gtD g), x2, x3, x4, x5, none, x7, x8, x9, none, some (.tup (rowsD word)), none, some (.lst (rowsD (goG g word g.firsts).1)), x14, none] := by
  obtain ⟨σ', e1, y5, y14, e2⟩ := forS_inv (t := T.var 5) (l := LV tb sub (n + 24) f__law_gates_right) (b := l__law_gates_right_1) (ys := word) (σ := [some c, some (gtD g), x2, x3, x4, x5, none, some (.tup (g.firsts.map bitD)), x8, x9, none, some (.tup (rowsD word)), none, some (.lst []), none, none]) (fun r : List Bool => D.tup (r.map bitD))
    (fun pre σ => ∃ x5 x14 : Option D, σ = [some c, some (gtD g), x2, x3, x4, x5, none, some (.tup ((goG g pre g.firsts).2.map bitD)), x8, x9, none, some (.tup (rowsD word)), none, some (.lst (rowsD (goG g pre g.firsts).1)), x14, none]) ⟨x5, none, rfl⟩ (by
      rintro pre r post σ e ⟨y5, y14, rfl⟩
      have hl : pre.length + post.length + 1 = word.length := by
        have := congrArg List.length e
        simp at this
        omega
      have hrl : r.length = g.ins := hr r (by rw [e]; simp)
      have hh := goG_held g h.nexts pre _ h.firsts
      have a1 := told_at (n := n) (given := r) (held := (goG g pre g.firsts).2) h hrl hh hm
      have hf : Fit 16777215 (rowsD (goG g pre g.firsts).1) := Fit.of (k := 200) (by simp [rowsD, goG_len]; omega) _ (by decide)
      rw [goG_app]
      simp only [stepG] at a1
      refine ⟨[some c, some (gtD g), x2, x3, x4, some (.tup (r.map bitD)), none, some (.tup ((outsG g r (goG g pre g.firsts).2 g.nexts).map bitD)), x8, x9, none, some (.tup (rowsD word)), none, some (.lst (rowsD (goG g pre g.firsts).1 ++ [.tup ((outsG g r (goG g pre g.firsts).2 g.outs).map bitD)])), some (.tup ((outsG g r (goG g pre g.firsts).2 g.outs).map bitD)), none], ?_, some (.tup (r.map bitD)), some (.tup ((outsG g r (goG g pre g.firsts).2 g.outs).map bitD)), by simp [rowsD]⟩
      generalize outsG g r (goG g pre g.firsts).2 g.outs = O at *
      generalize outsG g r (goG g pre g.firsts).2 g.nexts = N at *
      generalize gtD g = G at *
      simp -implicitDefEqProofs [l__law_gates_right_1, callS, a1, hf])
  exact ⟨σ', e1, y5, _, y14, e2⟩
end
section
variable {n : Nat}
theorem like_rows {rows rows2 : List (List Bool)} (h : rows.length ≤ 1000) (hr : ∀ r ∈ rows, r.length ≤ 100) (h2 : rows2.length ≤ 1000) (hr2 : ∀ r ∈ rows2, r.length ≤ 100) : lkd 3 (.lst [.tup (rowsD rows), .tup (rowsD rows2)]) = true := by
  have k : ∀ rows : List (List Bool), (∀ r ∈ rows, r.length ≤ 100) → lkds 1 (rowsD rows) = true := fun rows hr => lks_map fun r hm => by
    simp [lks_bits]
    have := hr r hm
    omega
  have l1 : (rowsD rows).length = rows.length := by simp [rowsD]
  have l2 : (rowsD rows2).length = rows2.length := by simp [rowsD]
  simp [k rows hr, k rows2 hr2, l1, l2]
  omega
theorem run_gates_right {c : D} (hc : Cup c) : ∃ c' : D, Fs tb sub (n + 25) i__law_gates_right [c] = .ok (.bl true, [c']) ∧ Cup c' := by
  obtain ⟨g, c1, a1, hc1, h, h3, h4, h5⟩ := run_gates (n := n + 22) hc
  have hm : g.ins + g.sts + g.nds.length ≤ 20 := by omega
  obtain ⟨σ', r1, c2, x4, x5, x7, x8, x9, hc2, rfl⟩ := gr_turns (n := n) h h3 h4 hm hc1
  obtain ⟨m, c3, a2, hc3, b2⟩ := run_rollN (n := n + 23) (k := 8) hc2 (by decide) (by decide)
  obtain ⟨word, σw, d1, ⟨c4, hc4, rfl⟩, hw, hr⟩ := gr_word (n := n + 23) (g := g) (c0 := c2) (c := c3) (x3 := some (natD g.sts)) (x4 := x4) (x5 := x5) (x7 := x7) (x8 := x8) (x9 := x9) (m := m) h3 (by omega) hc3
  obtain ⟨σ', r2, y5, y7, y14, rfl⟩ := gr_go (n := n) (c := c4) (x2 := some (natD g.ins)) (x3 := some (natD g.sts)) (x4 := x4) (x5 := x5) (x8 := x8) (x9 := x9) (word := word) h h3 h4 hm (by omega) hr
  obtain ⟨k, c5, a7, hc5, b7⟩ := run_rollN (n := n + 23) (k := (m : Int) + 1) hc4 (by omega) (by omega)
  have hk : k ≤ word.length := by omega
  have a3 := run_is_gates (n := n + 20) h
  have a4 := run_like (n := n + 22) 0 (.bl true) (by simp)
  have a5 := run_gates_run (n := n + 18) (word := word) h (by omega) hr
  have a6 := run_gates_run (n := n + 18) (word := word.take k) h (by rw [List.length_take]; omega) (fun r hm => hr r (List.mem_of_mem_take hm))
  have hrow := goG_row g h.outs.2 word g.firsts
  have hlen := goG_len g word g.firsts
  rw [goG_take g word k hk] at a6
  have a8 := run_like (n := n + 19) 3 _ (like_rows (rows := (goG g word g.firsts).1) (rows2 := ((goG g word g.firsts).1).take k) (by omega) hrow (by rw [List.length_take]; omega) (fun r hm => hrow r (List.mem_of_mem_take hm)))
  have ec1 : cut (rowsD word) none (some (k : Int)) = rowsD (word.take k) := by rw [cut_head]; simp [rowsD, List.map_take]
  have ec2 : cut (rowsD (goG g word g.firsts).1) none (some (k : Int)) = rowsD (((goG g word g.firsts).1).take k) := by rw [cut_head]; simp [rowsD, List.map_take]
  have el1 : (rowsD word).length = m := by simp [rowsD, hw]
  have el2 : (rowsD (word.take k)).length = k := by simp [rowsD]; omega
  have hr1 : rangeL 0 4 = (List.range 4).map natD := rfl
  have hr2 : rangeL 0 (m : Int) = (List.range m).map natD := rangeL_of rfl
  have o1 : rngOk 4 = true := rfl
  have o2 := rngOk_of (i := (m : Int)) (by omega) (by omega)
  have e0 : subD (gtD g) (.int 0) = some (natD g.ins) := by simp [gtD]
  have e1 : subD (gtD g) (.int 1) = some (natD g.sts) := by simp [gtD]
  have e2 : subD (gtD g) (.int 2) = some (.tup (g.firsts.map bitD)) := by simp [gtD]
  refine ⟨c5, ?_, hc5⟩
  rw [call__law_gates_right]
  generalize rowsD (((goG g word g.firsts).1).take k) = W2 at *
  generalize rowsD (goG g word g.firsts).1 = W at *
  generalize rowsD (word.take k) = Ws at *
  generalize rowsD word = Wd at *
  generalize gtD g = G at *
  simp -implicitDefEqProofs [b__law_gates_right, callS, a1, e0, e1, a3, a4, hr1, o1, r1, a2, hr2, o2, d1, e2, r2, el1, a7, ec1, el2, ec2, a5, a6, a8]
end
/-! ### limits -/
def good : D := .tup [.int 2, .int 1, .tup [.int 0], .tup [.tup [.int 2, .int 4], .tup [.int 3, .int 5], .tup [.int 9, .int 11], .tup [.int 6, .int 12], .tup [.int 7, .int 13], .tup [.int 15, .int 17]], .tup [.int 18], .tup [.int 6, .int 13]]
def odds : List D := [.non, .tup [], .tup [.int 2, .int 1, .tup [.int 0], .tup [.tup [.int 2, .int 4], .tup [.int 3, .int 5], .tup [.int 9, .int 11], .tup [.int 6, .int 12], .tup [.int 7, .int 13], .tup [.int 15, .int 17]], .tup [.int 18]], .tup [.int 2, .int 1, .tup [.int 0], .tup [.tup [.int 2, .int 4], .tup [.int 3, .int 5], .tup [.int 9, .int 11], .tup [.int 6, .int 12], .tup [.int 7, .int 13], .tup [.int 15, .int 17]], .tup [.int 18], .tup [.int 6, .int 13], .int 0], .lst [.int 2, .int 1, .tup [.int 0], .tup [.tup [.int 2, .int 4], .tup [.int 3, .int 5], .tup [.int 9, .int 11], .tup [.int 6, .int 12], .tup [.int 7, .int 13], .tup [.int 15, .int 17]], .tup [.int 18], .tup [.int 6, .int 13]], .tup [.int 9, .int 0, .tup [], .tup [], .tup [], .tup [.int 0]], .tup [.int 0, .int 7, .tup [.int 0, .int 0, .int 0, .int 0, .int 0, .int 0, .int 0], .tup [], .tup [.int 0, .int 0, .int 0, .int 0, .int 0, .int 0, .int 0], .tup [.int 0]], .tup [.int (-1), .int 0, .tup [], .tup [], .tup [], .tup [.int 0]], .tup [.bl true, .int 0, .tup [], .tup [], .tup [], .tup [.int 0]], .int 0, .tup [.int 0, .int 1, .tup [], .tup [], .tup [.int 0], .tup [.int 0]], .tup [.int 0, .int 1, .tup [.int 2], .tup [], .tup [.int 0], .tup [.int 0]], .tup [.int 0, .int 1, .tup [.int 0], .tup [], .tup [], .tup [.int 0]], .tup [.int 0, .int 0, .tup [], .tup [], .tup [], .tup []], .tup [.int 0, .int 0, .tup [], .tup [], .tup [], .tup [.int 2]], .tup [.int 0, .int 0, .tup [], .tup [], .tup [], .tup [.int (-1)]], .tup [.int 1, .int 0, .tup [], .tup [.tup [.int 2, .int 2]], .tup [], .tup [.int 0]], .tup [.int 1, .int 0, .tup [], .tup [.tup [.int 3, .int 2]], .tup [], .tup [.int 0]], .tup [.int 1, .int 0, .tup [], .tup [.tup [.int 2, .int 4]], .tup [], .tup [.int 0]], .tup [.int 1, .int 0, .tup [], .tup [.tup [.int 2, .int 3, .int 3]], .tup [], .tup [.int 0]], .tup [.int 1, .int 0, .tup [], .lst [.tup [.int 2, .int 3]], .tup [], .tup [.int 0]], .tup [.int 0, .int 0, .tup [], .tup (List.replicate 401 (.tup [.int 0, .int 1])), .tup [], .tup [.int 0]], .tup [.int 0, .int 0, .tup [], .tup [], .tup [], .tup [.int 0, .int 0, .int 0, .int 0, .int 0, .int 0, .int 0, .int 0, .int 0, .int 0, .int 0, .int 0, .int 0, .int 0, .int 0, .int 0, .int 0]], .tup [.int 0, .int 1, .tup [.int 0], .tup [], .tup [.int 4], .tup [.int 0]], .tup [.int 0, .int 0, .tup [], .tup [], .tup [], .tup [.bl true]], .tup [.int 1, .int 0, .tup [], .tup [.lst [.int 2, .int 3]], .tup [], .tup [.int 0]]]
def rights : List D := [good, .tup [.int 0, .int 0, .tup [], .tup [], .tup [], .tup [.int 1]], .tup [.int 8, .int 6, .tup [.int 1, .int 1, .int 1, .int 1, .int 1, .int 1], .tup [], .tup [.int 0, .int 0, .int 0, .int 0, .int 0, .int 0], .tup [.int 0, .int 0, .int 0, .int 0, .int 0, .int 0, .int 0, .int 0, .int 0, .int 0, .int 0, .int 0, .int 0, .int 0, .int 0, .int 0]], .tup [.int 0, .int 0, .tup [], .tup (List.replicate 400 (.tup [.int 0, .int 1])), .tup [], .tup [.int 800]]]
def tS : D := .str ⟨#[103, 97, 116, 101, 115]⟩
def vS : D := .str ⟨#[118, 97, 108, 117, 101, 115]⟩
def wS : D := .str ⟨#[119, 111, 114, 100]⟩
def nth : Nat → Ss → S
  | 0, .cons s _ => s
  | k + 1, .cons _ r => nth k r
  | _, .nil => .bad
def after : Nat → Ss → Ss
  | 0, r => r
  | k + 1, .cons _ r => after k r
  | _, .nil => .nil
abbrev LL : Lv := LV tb sub 30 f__law_limits_right
noncomputable abbrev FL := fLV tb sub 30 f__law_limits_right
abbrev stA (c : D) (o r : Option D) : Sd := [some c, some good, o, r, none, none, none, none, none, none, none, none, none]
abbrev stL (c d : D) (W : List D) (x7 x8 x9 x10 : Option D) : Sd := [some c, some good, some (.lst odds), some (.lst rights), none, some (.lst W), some d, x7, x8, x9, x10, none, none]
theorem li0 (c : D) : ex (nth 0 b__law_limits_right) LL [some c, none, none, none, none, none, none, none, none, none, none, none, none] = .ok (.nx, stA c none none) := ex_fast (by kernel_rfl)
theorem li1 (c : D) : ex (nth 1 b__law_limits_right) LL (stA c none none) = .ok (.nx, stA c (some (.lst (odds.take 10))) none) := ex_fast (by kernel_rfl)
theorem li2 (c : D) : ex (nth 2 b__law_limits_right) LL (stA c (some (.lst (odds.take 10))) none) = .ok (.nx, stA c (some (.lst (odds.take 16))) none) := ex_fast (by kernel_rfl)
theorem li3 (c : D) : ex (nth 3 b__law_limits_right) LL (stA c (some (.lst (odds.take 16))) none) = .ok (.nx, stA c (some (.lst (odds.take 21))) none) := ex_fast (by kernel_rfl)
theorem li4 (c : D) : ex (nth 4 b__law_limits_right) LL (stA c (some (.lst (odds.take 21))) none) = .ok (.nx, stA c (some (.lst odds)) none) := ex_fast (by kernel_rfl)
theorem li5 (c : D) : ex (nth 5 b__law_limits_right) LL (stA c (some (.lst odds)) none) = .ok (.nx, stA c (some (.lst odds)) (some (.lst rights))) := ex_fast (by kernel_rfl)
theorem li6 (c : D) : ex (nth 6 b__law_limits_right) LL (stA c (some (.lst odds)) (some (.lst rights))) = .ok (.nx, stA c (some (.lst odds)) (some (.lst rights))) := ex_fast (by kernel_rfl)
abbrev V14 : List D := tS :: List.replicate 13 vS
abbrev sF : Option D := some (.fn i_gates_step)
abbrev bF : Option D := some (.fn i_gates_bits)
abbrev z8 : Option D := some (.int 0)
abbrev z9 : Option D := some (.tup [.bl true])
theorem la1 (c : D) : (odds.map fun d => fx (nth 0 l__law_limits_right_4) FL (stL c d [] sF none none none)) = odds.map fun d => .ok (.nx, stL c d [tS] sF none none none) := by kernel_rfl
theorem la2 (c d : D) : fxs (after 1 l__law_limits_right_4) FL (stL c d [tS] sF none none none) = .ok (.nx, stL c d V14 sF z8 z9 none) := by kernel_rfl
theorem la3 (c : D) : (odds.map fun d => fx (nth 0 l__law_limits_right_4) FL (stL c d V14 bF z8 z9 none)) = odds.map fun d => .ok (.nx, stL c d (V14 ++ [tS]) bF z8 z9 none) := by kernel_rfl
theorem la4 (c d : D) : fxs (after 1 l__law_limits_right_4) FL (stL c d (V14 ++ [tS]) bF z8 z9 none) = .ok (.nx, stL c d (V14 ++ V14) bF z8 z9 none) := by kernel_rfl
theorem la5 (c : D) : (odds.map fun d => fx (nth 9 b__law_limits_right) FL (stL c d (V14 ++ V14) bF z8 z9 none)) = odds.map fun d => .ok (.nx, stL c d (V14 ++ V14 ++ [tS]) bF z8 z9 none) := by kernel_rfl
theorem la6 (c d : D) : rtT (fxs (after 10 b__law_limits_right) FL (stL c d (V14 ++ V14 ++ [tS]) bF z8 z9 none)) = some c := by kernel_rfl
theorem run_limits {c : D} (hc : Cup c) : ∃ c', Fs tb sub 31 i__law_limits_right [c] = .ok (.bl true, [c']) := by
  obtain ⟨d, c', h1, h2, h3⟩ := run_someL (n := 28) (xs := odds) hc (by simp [odds]) (by simp [odds])
  have k1 : ex (nth 0 l__law_limits_right_4) LL (stL c' d [] sF none none none) = .ok (.nx, stL c' d [tS] sF none none none) := ex_fast (List.map_inj_left.mp (la1 c') d h3)
  have k3 : ex (nth 0 l__law_limits_right_4) LL (stL c' d V14 bF z8 z9 none) = .ok (.nx, stL c' d (V14 ++ [tS]) bF z8 z9 none) := ex_fast (List.map_inj_left.mp (la3 c') d h3)
  have k5 : ex (nth 9 b__law_limits_right) LL (stL c' d (V14 ++ V14) bF z8 z9 none) = .ok (.nx, stL c' d (V14 ++ V14 ++ [tS]) bF z8 z9 none) := ex_fast (List.map_inj_left.mp (la5 c') d h3)
  have k2 := exs_fast (la2 c' d)
  have k4 := exs_fast (la4 c' d)
  obtain ⟨σ, hσ⟩ := rtT_of (la6 c' d)
  have k6 := exs_fast hσ
  have b1 : exs l__law_limits_right_4 LL (stL c' d [] sF none none none) = .ok (.nx, stL c' d V14 sF z8 z9 none) := exs_step k1 k2
  have b2 : exs l__law_limits_right_4 LL (stL c' d V14 bF z8 z9 none) = .ok (.nx, stL c' d (V14 ++ V14) bF z8 z9 none) := exs_step k3 k4
  have k9 : ex (nth 8 b__law_limits_right) LL (stL c' d [] none none none none) = .ok (.nx, stL c' d (V14 ++ V14) bF z8 z9 none) := by
    obtain ⟨σ', e1, e2⟩ := forS_inv (t := T.var 7) (l := LL) (b := l__law_limits_right_4) (ys := [false, true]) (σ := stL c' d [] none none none none) (fun b : Bool => if b then .fn i_gates_bits else .fn i_gates_step)
      (fun pre σ => (pre = [] ∧ σ = stL c' d [] none none none none) ∨ (pre = [false] ∧ σ = stL c' d V14 sF z8 z9 none) ∨ (pre = [false, true] ∧ σ = stL c' d (V14 ++ V14) bF z8 z9 none)) (.inl ⟨rfl, rfl⟩) (by
        rintro pre y post σ e (⟨rfl, rfl⟩ | ⟨rfl, rfl⟩ | ⟨rfl, rfl⟩)
        · have hy : y = false := by simp at e; exact e.1
          subst hy
          exact ⟨_, b1, .inr (.inl ⟨rfl, rfl⟩)⟩
        · have hy : y = true := by simp at e; exact e.1
          subst hy
          exact ⟨_, b2, .inr (.inr ⟨rfl, rfl⟩)⟩
        · simp at e)
    have e3 : σ' = stL c' d (V14 ++ V14) bF z8 z9 none := by
      rcases e2 with ⟨h, _⟩ | ⟨h, _⟩ | ⟨_, h⟩
      · cases h
      · cases h
      · exact h
    rw [← e3]
    exact e1
  have k8 : ex (nth 7 b__law_limits_right) LL (stA c (some (.lst odds)) (some (.lst rights))) = .ok (.nx, stL c' d [] none none none none) := by
    have : nth 7 b__law_limits_right = S.asg (T.tup [(T.var 5), (T.var 6)]) (E.tup (Es.cons (E.lst Es.nil) (Es.cons (E.call i__law_some (Es.cons (E.rv 0) (Es.cons (E.var 2) Es.nil))) Es.nil))) := rfl
    rw [this]
    simp -implicitDefEqProofs [callS, h1]
  have e : exs b__law_limits_right LL [some c, none, none, none, none, none, none, none, none, none, none, none, none] = .ok (.rt (.bl true), some c' :: σ) :=
    exs_step (li0 c) (exs_step (li1 c) (exs_step (li2 c) (exs_step (li3 c) (exs_step (li4 c) (exs_step (li5 c) (exs_step (li6 c) (exs_step k8 (exs_step k9 (exs_step k5 k6)))))))))
  refine ⟨c', ?_⟩
  rw [call__law_limits_right, e]
  simp
abbrev LG : Lv := LV tb sub 30 f__law_great_right
abbrev st0 (c m f : D) (x3 x4 x5 x6 x7 x8 x9 : Option D) : Sd := [some c, some m, some f, x3, x4, x5, x6, x7, x8, x9, none, none, none, none, none, none, none, none, none, none, none, none]
/-! ### the counter -/
def cnd : Nat → List (Nat × Nat)
  | 1 => [(1, 2), (0, 3), (5, 7)]
  | 2 => [(1, 2), (0, 3), (7, 9), (4, 6), (5, 7), (13, 15)]
  | 3 => [(1, 2), (0, 3), (9, 11), (4, 8), (5, 9), (15, 17), (6, 14), (7, 15), (21, 23)]
  | 4 => [(1, 2), (0, 3), (11, 13), (4, 10), (5, 11), (17, 19), (6, 16), (7, 17), (23, 25), (8, 22), (9, 23), (29, 31)]
  | 5 => [(1, 2), (0, 3), (13, 15), (4, 12), (5, 13), (19, 21), (6, 18), (7, 19), (25, 27), (8, 24), (9, 25), (31, 33), (10, 30), (11, 31), (37, 39)]
  | 6 => [(1, 2), (0, 3), (15, 17), (4, 14), (5, 15), (21, 23), (6, 20), (7, 21), (27, 29), (8, 26), (9, 27), (33, 35), (10, 32), (11, 33), (39, 41), (12, 38), (13, 39), (45, 47)]
  | _ => []
def cnx : Nat → List Nat
  | 1 => [8]
  | 2 => [10, 16]
  | 3 => [12, 18, 24]
  | 4 => [14, 20, 26, 32]
  | 5 => [16, 22, 28, 34, 40]
  | 6 => [18, 24, 30, 36, 42, 48]
  | _ => []
theorem gc1 (c f : D) : ex (nth 2 b__law_great_right) LG (st0 c (natD 1) f (some (.lst [])) (some (.int 1)) (some (.lst [])) (some (.int 2)) none none none) = .ok (.nx, st0 c (natD 1) f (some (.lst ((cnd 1).map ndD))) (some (.int 4)) (some (.lst ((cnx 1).map natD))) (some (.int 5)) (some (.int 0)) (some (.int 2)) (some (.lst [.tup [.int 1, .int 2], .tup [.int 0, .int 3]]))) := ex_fast (by kernel_rfl)
theorem gc2 (c f : D) : ex (nth 2 b__law_great_right) LG (st0 c (natD 2) f (some (.lst [])) (some (.int 1)) (some (.lst [])) (some (.int 3)) none none none) = .ok (.nx, st0 c (natD 2) f (some (.lst ((cnd 2).map ndD))) (some (.int 12)) (some (.lst ((cnx 2).map natD))) (some (.int 9)) (some (.int 1)) (some (.int 4)) (some (.lst [.tup [.int 4, .int 6], .tup [.int 5, .int 7]]))) := ex_fast (by kernel_rfl)
theorem gc3 (c f : D) : ex (nth 2 b__law_great_right) LG (st0 c (natD 3) f (some (.lst [])) (some (.int 1)) (some (.lst [])) (some (.int 4)) none none none) = .ok (.nx, st0 c (natD 3) f (some (.lst ((cnd 3).map ndD))) (some (.int 20)) (some (.lst ((cnx 3).map natD))) (some (.int 13)) (some (.int 2)) (some (.int 6)) (some (.lst [.tup [.int 6, .int 14], .tup [.int 7, .int 15]]))) := ex_fast (by kernel_rfl)
theorem gc4 (c f : D) : ex (nth 2 b__law_great_right) LG (st0 c (natD 4) f (some (.lst [])) (some (.int 1)) (some (.lst [])) (some (.int 5)) none none none) = .ok (.nx, st0 c (natD 4) f (some (.lst ((cnd 4).map ndD))) (some (.int 28)) (some (.lst ((cnx 4).map natD))) (some (.int 17)) (some (.int 3)) (some (.int 8)) (some (.lst [.tup [.int 8, .int 22], .tup [.int 9, .int 23]]))) := ex_fast (by kernel_rfl)
theorem gc5 (c f : D) : ex (nth 2 b__law_great_right) LG (st0 c (natD 5) f (some (.lst [])) (some (.int 1)) (some (.lst [])) (some (.int 6)) none none none) = .ok (.nx, st0 c (natD 5) f (some (.lst ((cnd 5).map ndD))) (some (.int 36)) (some (.lst ((cnx 5).map natD))) (some (.int 21)) (some (.int 4)) (some (.int 10)) (some (.lst [.tup [.int 10, .int 30], .tup [.int 11, .int 31]]))) := ex_fast (by kernel_rfl)
theorem gc6 (c f : D) : ex (nth 2 b__law_great_right) LG (st0 c (natD 6) f (some (.lst [])) (some (.int 1)) (some (.lst [])) (some (.int 7)) none none none) = .ok (.nx, st0 c (natD 6) f (some (.lst ((cnd 6).map ndD))) (some (.int 44)) (some (.lst ((cnx 6).map natD))) (some (.int 25)) (some (.int 5)) (some (.int 12)) (some (.lst [.tup [.int 12, .int 38], .tup [.int 13, .int 39]]))) := ex_fast (by kernel_rfl)
theorem gc (c f : D) {m : Nat} (h1 : 1 ≤ m) (h6 : m ≤ 6) : ∃ x4 x6 x7 x8 x9, ex (nth 2 b__law_great_right) LG (st0 c (natD m) f (some (.lst [])) (some (.int 1)) (some (.lst [])) (some (.int (1 + (m : Int)))) none none none) = .ok (.nx, st0 c (natD m) f (some (.lst ((cnd m).map ndD))) x4 (some (.lst ((cnx m).map natD))) x6 x7 x8 x9) := by
  have : m = 1 ∨ m = 2 ∨ m = 3 ∨ m = 4 ∨ m = 5 ∨ m = 6 := by omega
  rcases this with rfl | rfl | rfl | rfl | rfl | rfl
  · exact ⟨_, _, _, _, _, gc1 c f⟩
  · exact ⟨_, _, _, _, _, gc2 c f⟩
  · exact ⟨_, _, _, _, _, gc3 c f⟩
  · exact ⟨_, _, _, _, _, gc4 c f⟩
  · exact ⟨_, _, _, _, _, gc5 c f⟩
  · exact ⟨_, _, _, _, _, gc6 c f⟩
def bitsOf (m s : Nat) : List Bool := (List.range m).map fun j => s.testBit j
def cG (m s : Nat) : Gt := ⟨0, m, bitsOf m s, cnd m, cnx m, (List.range m).map fun j => 2 + 2 * j⟩
def ndChk (k : Nat) : List (Nat × Nat) → Nat → Bool
  | [], _ => true
  | p :: r, i => decide (p.1 < p.2) && decide (p.2 < 2 * (1 + k + i)) && ndChk k r (i + 1)
theorem ndChk_ok {k : Nat} : ∀ {l : List (Nat × Nat)} {j : Nat}, ndChk k l j = true → ∀ i p, l[i]? = some p → p.1 < p.2 ∧ p.2 < 2 * (1 + k + (j + i))
  | [], _, _, i, p, h => by simp at h
  | q :: r, j, hc, 0, p, h => by
    unfold ndChk at hc
    simp only [Bool.and_eq_true, decide_eq_true_eq] at hc
    have : q = p := by simpa using h
    subst this
    exact hc.1
  | q :: r, j, hc, i + 1, p, h => by
    unfold ndChk at hc
    simp only [Bool.and_eq_true] at hc
    have := ndChk_ok hc.2 i p (by simpa using h)
    omega
theorem cG_ok {m : Nat} (s : Nat) (h1 : 1 ≤ m) (h6 : m ≤ 6) : GtOk (cG m s) := by
  have key : ∀ m, m < 7 → 1 ≤ m → (ndChk m (cnd m) 0 && decide ((cnd m).length ≤ 400) && decide ((cnx m).length = m) && (cnx m).all (fun w => decide (w < 2 * (1 + m + (cnd m).length)))) = true := by decide +kernel
  have k := key m (by omega) h1
  simp only [Bool.and_eq_true, decide_eq_true_eq, List.all_eq_true] at k
  obtain ⟨⟨⟨k1, k2⟩, k3⟩, k4⟩ := k
  refine ⟨by show 0 ≤ 8; decide, h6, by simp [cG, bitsOf], k2, fun i p hp => ?_, k3, fun w hw => ?_, ?_, fun w hw => ?_⟩
  · have := ndChk_ok k1 i p hp
    show p.1 < p.2 ∧ p.2 < 2 * (1 + 0 + m + i)
    omega
  · have := k4 w hw
    show w < 2 * (1 + 0 + m + (cnd m).length)
    omega
  · show 1 ≤ ((List.range m).map _).length ∧ ((List.range m).map _).length ≤ 16
    simp
    omega
  · obtain ⟨j, hj, rfl⟩ := List.mem_map.mp hw
    have := List.mem_range.mp hj
    show 2 + 2 * j < 2 * (1 + 0 + m + (cnd m).length)
    omega
theorem cG_step {m s : Nat} (t : Nat) (h1 : 1 ≤ m) (h6 : m ≤ 6) (hs : s < 2 ^ m) : outsG (cG m t) [] (bitsOf m s) (cG m t).outs = bitsOf m s ∧ outsG (cG m t) [] (bitsOf m s) (cG m t).nexts = bitsOf m ((s + 1) % 2 ^ m) := by
  have key : ∀ m, m < 7 → ∀ s, s < 2 ^ m → (let A := allB (cnd m) (bits0 [] (bitsOf m s)); (1 ≤ m → ((List.range m).map fun j => eb A (2 + 2 * j)) = bitsOf m s ∧ ((cnx m).map fun e => eb A e) = bitsOf m ((s + 1) % 2 ^ m))) := by decide +kernel
  have k := key m (by omega) s hs h1
  refine ⟨Eq.trans ?_ k.1, k.2⟩
  show List.map _ ((List.range m).map fun j => 2 + 2 * j) = _
  rw [List.map_map]
  rfl
theorem bitsOf_mod (m x : Nat) : bitsOf m (x % 2 ^ m) = bitsOf m x := by
  unfold bitsOf
  apply List.map_congr_left
  intro j hj
  have := List.mem_range.mp hj
  rw [Nat.testBit_mod_two_pow, decide_eq_true this, Bool.true_and]
theorem cG_go {m a : Nat} (h1 : 1 ≤ m) (h6 : m ≤ 6) : ∀ s : Nat, goG (cG m a) (List.replicate s []) (bitsOf m a) = ((List.range s).map fun i => bitsOf m (a + i), bitsOf m (a + s))
  | 0 => rfl
  | s + 1 => by
    have e : List.replicate (s + 1) ([] : List Bool) = List.replicate s [] ++ [[]] := List.replicate_succ'
    rw [e, goG_app, cG_go h1 h6 s]
    have hlt : (a + s) % 2 ^ m < 2 ^ m := Nat.mod_lt _ (Nat.pow_pos (by decide))
    have k := cG_step a h1 h6 hlt
    rw [bitsOf_mod] at k
    have k2 := k.2
    rw [bitsOf_mod] at k2
    have e2 : bitsOf m ((a + s) % 2 ^ m + 1) = bitsOf m (a + (s + 1)) := by
      rw [← bitsOf_mod m ((a + s) % 2 ^ m + 1), Nat.mod_add_mod, bitsOf_mod]
      congr 1
    show (_ ++ [outsG (cG m a) [] (bitsOf m (a + s)) (cG m a).outs], outsG (cG m a) [] (bitsOf m (a + s)) (cG m a).nexts) = _
    rw [k.1, k2, e2, List.range_succ, List.map_append]
    rfl
theorem shr_nat (x j : Nat) : bop .shr (natD x) (natD j) = some (natD (x / 2 ^ j)) := by
  show bop .shr (.int (x : Int)) (.int (j : Int)) = _
  rw [bop_shr (by omega)]
  show some (D.int _) = some (D.int _)
  congr 2
theorem band_one (y : Nat) : bop .band (natD y) (.int 1) = some (bitD (decide (y % 2 = 1))) := by
  have e : bop .band (natD y) (.int 1) = some (natD (y &&& 1)) := by
    show (opI .band (y : Int) (1 : Int)).map D.int = _
    unfold opI
    simp only
    rw [if_pos ⟨by omega, by omega⟩]
    rfl
  rw [e, Nat.and_one_is_mod]
  rcases Nat.mod_two_eq_zero_or_one y with z | z <;> rw [z] <;> rfl
theorem bit_at (x j : Nat) : bop .band (natD (x / 2 ^ j)) (.int 1) = some (bitD (x.testBit j)) := by
  rw [band_one, Nat.testBit_eq_decide_div_mod_eq]
abbrev st1 (c m f nd x4 nx x6 x7 x8 x9 : Option D) (x10 x11 x12 x13 x14 x15 : Option D) : Sd := [c, m, f, nd, x4, nx, x6, x7, x8, x9, x10, x11, x12, x13, x14, x15, none, none, none, none, none, none]
theorem gc_firsts {m a : Nat} (h6 : m ≤ 6) {x0 x1 x2 x3 x4 x5 x6 x7 x8 x9 x11 x12 x13 x14 x15 : Option D} : lcS [7] e__law_great_right_6 (T.var 7) Eo.none LG (st1 x0 x1 x2 x3 x4 x5 x6 x7 x8 x9 (some (natD a)) x11 x12 x13 x14 x15) ((List.range m).map natD) (st1 x0 x1 x2 x3 x4 x5 x6 x7 x8 x9 (some (natD a)) x11 x12 x13 x14 x15) = .ok (.lst ((bitsOf m a).map bitD), st1 x0 x1 x2 x3 x4 x5 x6 x7 x8 x9 (some (natD a)) x11 x12 x13 x14 x15) := by
  rw [lcS_map natD (fun j => bitD (a.testBit j)) (Fit.of (k := 6) (by simpa using h6) _ (by decide)) (by
    intro j hj
    have h1 := shr_nat a j
    have h2 := bit_at a j
    generalize natD (a / 2 ^ j) = y at *
    simp -implicitDefEqProofs [lcT, e__law_great_right_6, h1, h2])]
  simp [bitsOf, Function.comp_def]
theorem gc_due {m a s : Nat} (h6 : m ≤ 6) {x0 x1 x2 x3 x4 x5 x6 x7 x8 x9 x11 x12 x13 x14 : Option D} : lcS [7] e__law_great_right_3 (T.var 7) Eo.none LG (st1 x0 x1 x2 x3 x4 x5 x6 x7 x8 x9 (some (natD a)) x11 x12 x13 x14 (some (natD s))) ((List.range m).map natD) (st1 x0 x1 x2 x3 x4 x5 x6 x7 x8 x9 (some (natD a)) x11 x12 x13 x14 (some (natD s))) = .ok (.lst ((bitsOf m (a + s)).map bitD), st1 x0 x1 x2 x3 x4 x5 x6 x7 x8 x9 (some (natD a)) x11 x12 x13 x14 (some (natD s))) := by
  rw [lcS_map natD (fun j => bitD ((a + s).testBit j)) (Fit.of (k := 6) (by simpa using h6) _ (by decide)) (by
    intro j hj
    have h0 : bop .add (natD a) (natD s) = some (natD (a + s)) := by
      show bop .add (.int (a : Int)) (.int (s : Int)) = _
      simp
    have h1 := shr_nat (a + s) j
    have h2 := bit_at (a + s) j
    generalize natD ((a + s) / 2 ^ j) = y at *
    generalize natD (a + s) = z at *
    simp -implicitDefEqProofs [lcT, e__law_great_right_3, h0, h1, h2])]
  simp [bitsOf, Function.comp_def]
theorem gc_outs {m : Nat} (h6 : m ≤ 6) {x0 x1 x2 x3 x4 x5 x6 x7 x8 x9 x10 x11 x12 x13 x14 x15 : Option D} : lcS [7] e__law_great_right_5 (T.var 7) Eo.none LG (st1 x0 x1 x2 x3 x4 x5 x6 x7 x8 x9 x10 x11 x12 x13 x14 x15) ((List.range m).map natD) (st1 x0 x1 x2 x3 x4 x5 x6 x7 x8 x9 x10 x11 x12 x13 x14 x15) = .ok (.lst (((List.range m).map fun j => 2 + 2 * j).map natD), st1 x0 x1 x2 x3 x4 x5 x6 x7 x8 x9 x10 x11 x12 x13 x14 x15) := by
  rw [lcS_map natD (fun j => natD (2 + 2 * j)) (Fit.of (k := 6) (by simpa using h6) _ (by decide)) (by
    intro j hj
    have h0 : bop .mul (.int 2) (natD j) = some (natD (2 * j)) := by
      show bop .mul (.int 2) (.int (j : Int)) = _
      rw [bop_mul (.inl (by omega))]
      show some (D.int _) = some (D.int _)
      congr 2
    have h1 : bop .add (.int 2) (natD (2 * j)) = some (natD (2 + 2 * j)) := by
      show bop .add (.int 2) (.int ((2 * j : Nat) : Int)) = _
      simp
    generalize natD (2 * j) = y at *
    generalize natD (2 + 2 * j) = z at *
    simp -implicitDefEqProofs [lcT, e__law_great_right_5, h0, h1])]
  simp [Function.comp_def]
theorem rep_empty (s : Nat) (h : s ≤ 200) : bop .mul (.tup [.tup []]) (natD s) = some (.tup (rowsD (List.replicate s []))) := by
  show (if (-1000 : Int) ≤ (s : Int) ∧ (s : Int) ≤ 1000 ∧ ([D.tup []] : List D).length ≤ 1000 then some (D.tup (rep (s : Int) [.tup []])) else none) = _
  rw [if_pos ⟨by omega, by omega, by decide⟩]
  have e : ∀ k : Nat, (List.replicate k [D.tup []]).flatten = rowsD (List.replicate k []) := by
    intro k
    induction k with
    | zero => rfl
    | succ k ih => rw [List.replicate_succ, List.flatten_cons, ih, List.replicate_succ]; rfl
  unfold rep
  rw [Int.toNat_natCast, e]
theorem mod_pow (f m : Nat) (h6 : m ≤ 6) : bop .shl (.int 1) (natD m) = some (natD (2 ^ m)) ∧ bop .mod (natD f) (natD (2 ^ m)) = some (natD (f % 2 ^ m)) := by
  constructor
  · show bop .shl (.int 1) (.int (m : Int)) = _
    rw [bop_shl (by omega) (by omega) (by decide)]
    show some (D.int _) = some (D.int _)
    congr 2
    simp
  · have hp : 0 < 2 ^ m := Nat.pow_pos (by decide)
    generalize 2 ^ m = k at *
    show bop .mod (.int (f : Int)) (.int (k : Int)) = _
    rw [bop_mod (by omega)]
    rfl
theorem gc_go {m a s : Nat} (h6 : m ≤ 6) (hs : s ≤ 200) {c : D} {x2 x3 x4 x5 x6 x7 x8 x9 x11 x12 x13 : Option D} :
    ∃ σ', forS (T.var 15) l__law_great_right_4 LG ((List.range s).map natD) (st1 (some c) (some (natD m)) x2 x3 x4 x5 x6 x7 x8 x9 (some (natD a)) x11 x12 x13 (some (.lst [])) none) = .ok (.nx, σ') ∧ ∃ x15, σ' = st1 (some c) (some (natD m)) x2 x3 x4 x5 x6 x7 x8 x9 (some (natD a)) x11 x12 x13 (some (.lst (rowsD ((List.range s).map fun i => bitsOf m (a + i))))) x15 := by
  obtain ⟨σ', e1, x15, e2⟩ := forS_inv (t := T.var 15) (l := LG) (b := l__law_great_right_4) (ys := List.range s) (σ := st1 (some c) (some (natD m)) x2 x3 x4 x5 x6 x7 x8 x9 (some (natD a)) x11 x12 x13 (some (.lst [])) none) natD
    (fun pre σ => ∃ x15, σ = st1 (some c) (some (natD m)) x2 x3 x4 x5 x6 x7 x8 x9 (some (natD a)) x11 x12 x13 (some (.lst (rowsD (pre.map fun i => bitsOf m (a + i))))) x15) ⟨none, rfl⟩ (by
      rintro pre i post σ e ⟨x15, rfl⟩
      have hl : pre.length + post.length + 1 = s := by
        have := congrArg List.length e
        simp at this
        omega
      have d := gc_due (m := m) (a := a) (s := i) h6 (x0 := some c) (x1 := some (natD m)) (x2 := x2) (x3 := x3) (x4 := x4) (x5 := x5) (x6 := x6) (x7 := x7) (x8 := x8) (x9 := x9) (x11 := x11) (x12 := x12) (x13 := x13) (x14 := some (.lst (rowsD (pre.map fun i => bitsOf m (a + i)))))
      have hf : Fit 16777215 (rowsD (pre.map fun i => bitsOf m (a + i))) := Fit.of (k := 200) (by simp [rowsD]; omega) _ (by decide)
      have hr : rangeL 0 (m : Int) = (List.range m).map natD := rangeL_of rfl
      have o := rngOk_of (i := (m : Int)) (by omega) (by omega)
      refine ⟨st1 (some c) (some (natD m)) x2 x3 x4 x5 x6 x7 x8 x9 (some (natD a)) x11 x12 x13 (some (.lst (rowsD (pre.map fun i => bitsOf m (a + i)) ++ [.tup ((bitsOf m (a + i)).map bitD)]))) (some (natD i)), ?_, some (natD i), by simp [rowsD]⟩
      generalize rowsD (pre.map fun i => bitsOf m (a + i)) = W at *
      generalize (bitsOf m (a + i)).map bitD = B at *
      simp -implicitDefEqProofs [l__law_great_right_4, hr, o, d, hf])
  exact ⟨σ', e1, x15, e2⟩
theorem run_counter {c : D} (hc : Cup c) : ∃ (c' : D) (x1 x2 x3 x4 x5 x6 x7 x8 x9 x10 x11 x12 x13 x14 x15 : Option D), Cup c' ∧ ∀ r, exs (after 10 b__law_great_right) LG (st1 (some c') x1 x2 x3 x4 x5 x6 x7 x8 x9 x10 x11 x12 x13 x14 x15) = r → exs b__law_great_right LG (st1 (some c) none none none none none none none none none none none none none none none) = r := by
  obtain ⟨m0, c1, a1, hc1, b1⟩ := run_rollN (n := 29) (k := 6) hc (by decide) (by decide)
  obtain ⟨f, c2, a2, hc2, b2⟩ := run_rollN (n := 29) (k := 64) hc1 (by decide) (by decide)
  obtain ⟨d, c3, a3, hc3, hd⟩ := run_someL (n := 28) (xs := [.int 0, .int 1, .int 2, .int 65, .int 200]) hc2 (by simp) (by simp)
  obtain ⟨s, hs, rfl⟩ : ∃ s : Nat, s ≤ 200 ∧ d = natD s := by
    simp at hd
    rcases hd with rfl | rfl | rfl | rfl | rfl
    · exact ⟨0, by decide, rfl⟩
    · exact ⟨1, by decide, rfl⟩
    · exact ⟨2, by decide, rfl⟩
    · exact ⟨65, by decide, rfl⟩
    · exact ⟨200, by decide, rfl⟩
  have h1 : 1 ≤ 1 + m0 := by omega
  have h6 : 1 + m0 ≤ 6 := by omega
  have hmc : (1 : Int) + m0 = ((1 + m0 : Nat) : Int) := by omega
  generalize hmm : 1 + m0 = m at h1 h6 hmc
  obtain ⟨x4, x6, x7, x8, x9, g1⟩ := gc c2 (natD f) h1 h6
  obtain ⟨p1, p2⟩ := mod_pow f m h6
  generalize ha : f % 2 ^ m = a at p2
  have hok := cG_ok a h1 h6
  have hgt : gtD (cG m a) = .tup [.int 0, natD m, .tup ((bitsOf m a).map bitD), .tup ((cnd m).map ndD), .tup ((cnx m).map natD), .tup (((List.range m).map fun j => 2 + 2 * j).map natD)] := rfl
  have k1 := run_is_gates (n := 26) hok
  have k2 := run_gates_run (n := 24) (word := List.replicate s []) hok (by simp; exact hs) (fun r hr => by
    have := List.eq_of_mem_replicate hr
    rw [this]; rfl)
  have hgo := cG_go (m := m) (a := a) h1 h6 s
  have efs : (cG m a).firsts = bitsOf m a := rfl
  rw [efs, hgo] at k2
  dsimp only at k2
  have hbl : ∀ x, (bitsOf m x).length = m := fun x => by simp [bitsOf]
  have k3 := run_like (n := 25) 3 (.lst [.bl true, .tup (rowsD ((List.range s).map fun i => bitsOf m (a + i)))]) (by
    have hk : lkds 1 (rowsD ((List.range s).map fun i => bitsOf m (a + i))) = true := lks_map fun r hr => by
      obtain ⟨i, _, rfl⟩ := List.mem_map.mp hr
      simp [lks_bits, hbl]
      omega
    have hl : (rowsD ((List.range s).map fun i => bitsOf m (a + i))).length = s := by simp [rowsD]
    simp only [lk_lst, lk_tup, lks_cons, lks_nil, lk_bl, hk, hl, Bool.and_true, Bool.true_and]
    simp
    omega)
  have k4 := rep_empty s hs
  have hrm : rangeL 0 (m : Int) = (List.range m).map natD := rangeL_of rfl
  have om := rngOk_of (i := (m : Int)) (by omega) (by omega)
  have hrs : rangeL 0 (s : Int) = (List.range s).map natD := rangeL_of rfl
  have os := rngOk_of (i := (s : Int)) (by omega) (by omega)
  obtain ⟨σ', r1, x15, rfl⟩ := gc_go (m := m) (a := a) (s := s) h6 hs (c := c3) (x2 := some (natD f)) (x3 := some (.lst ((cnd m).map ndD))) (x4 := x4) (x5 := some (.lst ((cnx m).map natD))) (x6 := x6) (x7 := x7) (x8 := x8) (x9 := x9) (x11 := some (.tup ((bitsOf m a).map bitD))) (x12 := some (gtD (cG m a))) (x13 := some (natD s))
  refine ⟨c3, some (natD m), some (natD f), some (.lst ((cnd m).map ndD)), x4, some (.lst ((cnx m).map natD)), x6, x7, x8, x9, some (natD a), some (.tup ((bitsOf m a).map bitD)), some (gtD (cG m a)), some (natD s), some (.lst (rowsD ((List.range s).map fun i => bitsOf m (a + i)))), x15, hc3, fun r hr => ?_⟩
  refine exs_step (σ1 := st1 (some c2) (some (natD m)) (some (natD f)) none none none none none none none none none none none none none) ?_ (exs_step (σ1 := st0 c2 (natD m) (natD f) (some (.lst [])) (some (.int 1)) (some (.lst [])) (some (.int (1 + (m : Int)))) none none none) ?_ (exs_step g1
    (exs_step (σ1 := st1 (some c2) (some (natD m)) (some (natD f)) (some (.lst ((cnd m).map ndD))) x4 (some (.lst ((cnx m).map natD))) x6 x7 x8 x9 (some (natD a)) none none none none none) ?_
    (exs_step (σ1 := st1 (some c2) (some (natD m)) (some (natD f)) (some (.lst ((cnd m).map ndD))) x4 (some (.lst ((cnx m).map natD))) x6 x7 x8 x9 (some (natD a)) (some (.tup ((bitsOf m a).map bitD))) none none none none) ?_
    (exs_step (σ1 := st1 (some c2) (some (natD m)) (some (natD f)) (some (.lst ((cnd m).map ndD))) x4 (some (.lst ((cnx m).map natD))) x6 x7 x8 x9 (some (natD a)) (some (.tup ((bitsOf m a).map bitD))) (some (gtD (cG m a))) none none none) ?_
    (exs_step (σ1 := st1 (some c3) (some (natD m)) (some (natD f)) (some (.lst ((cnd m).map ndD))) x4 (some (.lst ((cnx m).map natD))) x6 x7 x8 x9 (some (natD a)) (some (.tup ((bitsOf m a).map bitD))) (some (gtD (cG m a))) (some (natD s)) none none) ?_
    (exs_step (σ1 := st1 (some c3) (some (natD m)) (some (natD f)) (some (.lst ((cnd m).map ndD))) x4 (some (.lst ((cnx m).map natD))) x6 x7 x8 x9 (some (natD a)) (some (.tup ((bitsOf m a).map bitD))) (some (gtD (cG m a))) (some (natD s)) (some (.lst [])) none) ?_
    (exs_step (σ1 := st1 (some c3) (some (natD m)) (some (natD f)) (some (.lst ((cnd m).map ndD))) x4 (some (.lst ((cnx m).map natD))) x6 x7 x8 x9 (some (natD a)) (some (.tup ((bitsOf m a).map bitD))) (some (gtD (cG m a))) (some (natD s)) (some (.lst (rowsD ((List.range s).map fun i => bitsOf m (a + i))))) x15) ?_
    (exs_step ?_ hr)))))))))
  · have hmc' : (1 : Int) + m0 = (m : Int) := hmc
    simp -implicitDefEqProofs [callS, a1, a2, hmc']
  · simp -implicitDefEqProofs
  · generalize natD (2 ^ m) = M at *
    simp -implicitDefEqProofs [p1, p2]
  · have d1 := gc_firsts (m := m) (a := a) h6 (x0 := some c2) (x1 := some (natD m)) (x2 := some (natD f)) (x3 := some (.lst ((cnd m).map ndD))) (x4 := x4) (x5 := some (.lst ((cnx m).map natD))) (x6 := x6) (x7 := x7) (x8 := x8) (x9 := x9) (x11 := none) (x12 := none) (x13 := none) (x14 := none) (x15 := none)
    generalize (bitsOf m a).map bitD = B at *
    simp -implicitDefEqProofs [hrm, om, d1]
  · have d1 := gc_outs (m := m) h6 (x0 := some c2) (x1 := some (natD m)) (x2 := some (natD f)) (x3 := some (.lst ((cnd m).map ndD))) (x4 := x4) (x5 := some (.lst ((cnx m).map natD))) (x6 := x6) (x7 := x7) (x8 := x8) (x9 := x9) (x10 := some (natD a)) (x11 := some (.tup ((bitsOf m a).map bitD))) (x12 := none) (x13 := none) (x14 := none) (x15 := none)
    rw [hgt]
    generalize ((List.range m).map fun j => 2 + 2 * j).map natD = O at *
    generalize (bitsOf m a).map bitD = B at *
    simp -implicitDefEqProofs [hrm, om, d1]
  · generalize gtD (cG m a) = G at *
    simp -implicitDefEqProofs [callS, a3]
  · have hic : isContainer (.lst []) = true := rfl
    generalize gtD (cG m a) = G at *
    simp -implicitDefEqProofs [hic]
  · generalize gtD (cG m a) = G at *
    generalize rowsD ((List.range s).map fun i => bitsOf m (a + i)) = W at *
    simp -implicitDefEqProofs [hrs, os, r1]
  · generalize gtD (cG m a) = G at *
    generalize rowsD ((List.range s).map fun i => bitsOf m (a + i)) = W at *
    generalize rowsD (List.replicate s []) = Wd at *
    simp -implicitDefEqProofs [callS, k1, k2, k3, k4]
/-! ### the chain -/
def lnd (I n : Nat) : List (Nat × Nat) := (2, 4) :: (List.range n).map fun k => (2 * (1 + (k + 1) % I), 2 * (I + (k + 1)))
def chG (I : Nat) : Gt := ⟨I, 0, [], lnd I 399, [], [2 * (I + 400), 2 * (I + 400) + 1]⟩
theorem lnd_len (I n : Nat) : (lnd I n).length = n + 1 := by simp [lnd]
theorem lnd_at (I n k : Nat) (h : k < n) : (lnd I n)[k + 1]? = some (2 * (1 + (k + 1) % I), 2 * (I + (k + 1))) := by
  show ((List.range n).map _)[k]? = _
  rw [List.getElem?_map, List.getElem?_range h]
  rfl
theorem chG_ok {I : Nat} (h2 : 2 ≤ I) (h8 : I ≤ 8) : GtOk (chG I) := by
  have hl := lnd_len I 399
  refine ⟨h8, by show 0 ≤ 6; decide, rfl, by show (lnd I 399).length ≤ 400; omega, fun i p hp => ?_, rfl, (fun w hw => nomatch hw), by show 1 ≤ 2 ∧ 2 ≤ 16; decide, fun w hw => ?_⟩
  · show p.1 < p.2 ∧ p.2 < 2 * (1 + I + 0 + i)
    cases i with
    | zero =>
      have : p = (2, 4) := by
        have h : some ((2, 4) : Nat × Nat) = some p := hp
        exact (Option.some.inj h).symm
      subst this
      show 2 < 4 ∧ 4 < _
      omega
    | succ k =>
      have hk : k < 399 := by
        have h := (List.getElem?_eq_some_iff.mp hp).1
        have h : k + 1 < (lnd I 399).length := h
        omega
      have h : (lnd I 399)[k + 1]? = some p := hp
      rw [lnd_at I 399 k hk] at h
      have h := Option.some.inj h
      subst h
      have := Nat.mod_lt (k + 1) (by omega : I > 0)
      show 2 * (1 + (k + 1) % I) < 2 * (I + (k + 1)) ∧ 2 * (I + (k + 1)) < _
      omega
  · have hw : w ∈ [2 * (I + 400), 2 * (I + 400) + 1] := hw
    show w < 2 * (1 + I + 0 + (lnd I 399).length)
    simp at hw
    omega
theorem even_eb (A : List Bool) (k : Nat) : eb A (2 * k) = bg A k := by
  unfold eb
  rw [if_pos (by omega), show 2 * k / 2 = k by omega]
theorem odd_eb (A : List Bool) (k : Nat) : eb A (2 * k + 1) = !bg A k := by
  unfold eb
  rw [if_neg (by omega), show (2 * k + 1) / 2 = k by omega]
theorem chain_val {I : Nat} {given : List Bool} (h2 : 2 ≤ I) (hg : given.length = I) : ∀ k, k ≤ 399 → (bg (allB (lnd I 399) (bits0 given [])) (1 + I + k) = true ↔ bg given 0 = true ∧ bg given 1 = true ∧ ∀ j, 1 ≤ j → j ≤ k → bg given (j % I) = true) := by
  have hb : (bits0 given []).length = 1 + I := by simp [bits0]; omega
  have hpre : ∀ j, j < I → bg (allB (lnd I 399) (bits0 given [])) (1 + j) = bg given j := fun j hj => by
    rw [allB_pre _ _ (by omega)]
    unfold bits0 bg
    rw [Nat.add_comm 1 j]
    simp
  intro k
  induction k with
  | zero =>
    intro _
    have h := allB_at (lnd I 399) (bits0 given []) (i := 0) (p := (2, 4)) rfl (by show 1 < _; omega) (by show 2 < _; omega)
    rw [hb] at h
    rw [h]
    show (eb _ (2 * 1) && eb _ (2 * 2)) = true ↔ _
    rw [even_eb, even_eb, Bool.and_eq_true]
    have e0 := hpre 0 (by omega)
    have e1 := hpre 1 (by omega)
    rw [show bg (allB (lnd I 399) (bits0 given [])) 1 = bg given 0 from e0, show bg (allB (lnd I 399) (bits0 given [])) 2 = bg given 1 from e1]
    exact ⟨fun h => ⟨h.1, h.2, fun j a b => by omega⟩, fun h => ⟨h.1, h.2.1⟩⟩
  | succ k ih =>
    intro hk
    have hm := Nat.mod_lt (k + 1) (by omega : I > 0)
    have h := allB_at (lnd I 399) (bits0 given []) (i := k + 1) (lnd_at I 399 k (by omega)) (by show 2 * (1 + (k + 1) % I) / 2 < _; omega) (by show 2 * (I + (k + 1)) / 2 < _; omega)
    rw [hb] at h
    rw [h]
    show (eb _ (2 * (1 + (k + 1) % I)) && eb _ (2 * (I + (k + 1)))) = true ↔ _
    rw [even_eb, even_eb, Bool.and_eq_true, hpre _ hm, show I + (k + 1) = 1 + I + k by omega, ih (by omega)]
    constructor
    · rintro ⟨a, b, c, d⟩
      refine ⟨b, c, fun j j1 j2 => ?_⟩
      rcases Nat.lt_or_ge k j with z | z
      · rw [show j = k + 1 by omega]; exact a
      · exact d j j1 z
    · rintro ⟨b, c, d⟩
      exact ⟨d (k + 1) (by omega) (by omega), b, c, fun j j1 j2 => d j j1 (by omega)⟩
theorem chain_all {I : Nat} {given : List Bool} (h2 : 2 ≤ I) (h8 : I ≤ 8) (hg : given.length = I) : bg (allB (lnd I 399) (bits0 given [])) (I + 400) = given.all id := by
  have h := chain_val h2 hg 399 (Nat.le_refl _)
  rw [show 1 + I + 399 = I + 400 by omega] at h
  rw [Bool.eq_iff_iff, h, List.all_eq_true]
  constructor
  · rintro ⟨a, b, c⟩ x hx
    obtain ⟨j, hj, rfl⟩ := List.getElem_of_mem hx
    have e : bg given j = given[j] := by
      unfold bg
      rw [List.getD_eq_getElem?_getD, List.getElem?_eq_getElem hj]
      rfl
    show given[j] = true
    rw [← e]
    cases j with
    | zero => exact a
    | succ j =>
      have := c (j + 1) (by omega) (by omega)
      rw [Nat.mod_eq_of_lt (by omega)] at this
      exact this
  · intro hall
    have hb : ∀ j, j < I → bg given j = true := fun j hj => by
      have hj : j < given.length := by omega
      have e : bg given j = given[j] := by
        unfold bg
        rw [List.getD_eq_getElem?_getD, List.getElem?_eq_getElem hj]
        rfl
      rw [e]
      exact hall _ (List.getElem_mem hj)
    exact ⟨hb 0 (by omega), hb 1 (by omega), fun j _ _ => hb _ (Nat.mod_lt _ (by omega))⟩
theorem chain_step {I : Nat} {given : List Bool} (h2 : 2 ≤ I) (h8 : I ≤ 8) (hg : given.length = I) : stepG (chG I) given [] = .tup [.tup [bitD (given.all id), bitD (!given.all id)], .tup []] := by
  have h := chain_all h2 h8 hg
  show D.tup [.tup [bitD (eb (allB (lnd I 399) (bits0 given [])) (2 * (I + 400))), bitD (eb (allB (lnd I 399) (bits0 given [])) (2 * (I + 400) + 1))], .tup []] = _
  rw [even_eb, odd_eb, h]
def bI (b : Bool) : Int := if b then 1 else 0
theorem sum_le : ∀ bs : List Bool, (bs.map bI).sum ≤ bs.length
  | [] => by simp
  | b :: bs => by
    have h1 := sum_le bs
    rw [List.map_cons, List.sum_cons, List.length_cons]
    cases b
    · show 0 + _ ≤ _; omega
    · show 1 + _ ≤ _; omega
theorem sum_bits : ∀ bs : List Bool, decide ((bs.map bI).sum = bs.length) = bs.all id
  | [] => rfl
  | b :: bs => by
    have h1 := sum_le bs
    have h2 := sum_bits bs
    rw [List.map_cons, List.sum_cons, List.length_cons, List.all_cons, ← h2]
    cases b
    · show decide ((0 : Int) + (bs.map bI).sum = _) = false
      exact decide_eq_false (by omega)
    · show decide ((1 : Int) + (bs.map bI).sum = _) = decide ((bs.map bI).sum = bs.length)
      congr 1
      apply propext
      omega
theorem biD_sum_bits (bs : List Bool) : biD .sum [.tup (bs.map bitD)] = some (.int (bs.map bI).sum) := by
  show (dints (bs.map bitD)).map _ = _
  rw [show bs.map bitD = bs.map fun b => D.int (bI b) from List.map_congr_left fun b _ => by cases b <;> rfl, dints_map]
  rfl
abbrev st2 (x : List (Option D)) (x6 x16 x17 x18 x19 x20 x21 : Option D) : Sd := match x with
  | [x0, x1, x2, x3, x4, x5, x7, x8, x9, x10, x11, x12, x13, x14, x15] => [x0, x1, x2, x3, x4, x5, x6, x7, x8, x9, x10, x11, x12, x13, x14, x15, x16, x17, x18, x19, x20, x21]
  | _ => []
section
variable {x1 x2 x3 x4 x5 x6 x7 x8 x9 x10 x11 x12 x13 x14 x15 : Option D}
theorem ch_line {c : D} {I : Nat} (h2 : 2 ≤ I) (h8 : I ≤ 8) :
    ∃ σ', forS (T.var 18) l__law_great_right_2 LG ((List.range 399).map fun k => natD (k + 1)) [some c, x1, x2, x3, x4, x5, x6, x7, x8, x9, x10, x11, x12, x13, x14, x15, some (natD I), some (.lst ((lnd I 0).map ndD)), none, none, none, none] = .ok (.nx, σ') ∧ ∃ x18, σ' = [some c, x1, x2, x3, x4, x5, x6, x7, x8, x9, x10, x11, x12, x13, x14, x15, some (natD I), some (.lst ((lnd I 399).map ndD)), x18, none, none, none] := by
  obtain ⟨σ', e1, x18, e2⟩ := forS_inv (t := T.var 18) (l := LG) (b := l__law_great_right_2) (ys := List.range 399) (σ := [some c, x1, x2, x3, x4, x5, x6, x7, x8, x9, x10, x11, x12, x13, x14, x15, some (natD I), some (.lst ((lnd I 0).map ndD)), none, none, none, none]) (fun k => natD (k + 1))
    (fun pre σ => ∃ x18, σ = [some c, x1, x2, x3, x4, x5, x6, x7, x8, x9, x10, x11, x12, x13, x14, x15, some (natD I), some (.lst ((lnd I pre.length).map ndD)), x18, none, none, none]) ⟨none, rfl⟩ (by
      rintro pre k post σ e ⟨x18, rfl⟩
      have hk : k = pre.length ∧ pre.length < 399 := by
        have h1 : (List.range 399)[pre.length]? = some k := by rw [e]; simp
        have h2 := List.getElem?_eq_some_iff.mp h1
        obtain ⟨h3, h4⟩ := h2
        simp at h3 h4
        omega
      obtain ⟨rfl, hlt⟩ := hk
      have hpl : (pre ++ [pre.length]).length = pre.length + 1 := by simp
      rw [hpl]
      clear hpl
      generalize pre.length = k at hlt ⊢
      have hm := Nat.mod_lt (k + 1) (by omega : I > 0)
      have q1 : bop .mod (natD (k + 1)) (natD I) = some (natD ((k + 1) % I)) := by
        show bop .mod (.int ((k + 1 : Nat) : Int)) (.int (I : Int)) = _
        rw [bop_mod (by omega)]
        rfl
      have q2 : bop .add (.int 1) (natD ((k + 1) % I)) = some (natD (1 + (k + 1) % I)) := by
        generalize (k + 1) % I = z
        show bop .add (.int 1) (.int (z : Int)) = _
        simp
      have q3 : bop .mul (.int 2) (natD (1 + (k + 1) % I)) = some (natD (2 * (1 + (k + 1) % I))) := by
        generalize 1 + (k + 1) % I = z
        show bop .mul (.int 2) (.int (z : Int)) = _
        rw [bop_mul (.inl (by omega))]
        show some (D.int _) = some (D.int _)
        congr 2
      have q4 : bop .add (natD I) (natD (k + 1)) = some (natD (I + (k + 1))) := by
        generalize k + 1 = z
        show bop .add (.int (I : Int)) (.int (z : Int)) = _
        simp
      have q5 : bop .mul (.int 2) (natD (I + (k + 1))) = some (natD (2 * (I + (k + 1)))) := by
        generalize I + (k + 1) = z
        show bop .mul (.int 2) (.int (z : Int)) = _
        rw [bop_mul (.inl (by omega))]
        show some (D.int _) = some (D.int _)
        congr 2
      have q6 : biD .sorted [.lst [natD (2 * (1 + (k + 1) % I)), natD (2 * (I + (k + 1)))]] = some (.lst [natD (2 * (1 + (k + 1) % I)), natD (2 * (I + (k + 1)))]) := by
        have := biD_sortN (l := [2 * (1 + (k + 1) % I), 2 * (I + (k + 1))]) (by simp)
        rw [show sortN [2 * (1 + (k + 1) % I), 2 * (I + (k + 1))] = [2 * (1 + (k + 1) % I), 2 * (I + (k + 1))] by
          show insN _ [_] = _
          unfold insN
          rw [if_pos (by omega)]] at this
        exact this
      have hf : Fit 16777215 ((lnd I k).map ndD) := Fit.of (k := 400) (by simp [lnd_len]; omega) _ (by decide)
      have hn : (lnd I (k + 1)).map ndD = (lnd I k).map ndD ++ [.tup [natD (2 * (1 + (k + 1) % I)), natD (2 * (I + (k + 1)))]] := by
        unfold lnd
        rw [List.range_succ, List.map_append, List.map_cons, List.map_append]
        rfl
      have hml := mmD_append (d := .tup [natD (2 * (1 + (k + 1) % I)), natD (2 * (I + (k + 1)))]) hf
      rw [← hn] at hml
      refine ⟨[some c, x1, x2, x3, x4, x5, x6, x7, x8, x9, x10, x11, x12, x13, x14, x15, some (natD I), some (.lst ((lnd I (k + 1)).map ndD)), some (natD (k + 1)), none, none, none], ?_, some (natD (k + 1)), rfl⟩
      clear hn hf
      generalize (lnd I (k + 1)).map ndD = W1 at *
      generalize (lnd I k).map ndD = W at *
      generalize natD (2 * (1 + (k + 1) % I)) = A at *
      generalize natD (2 * (I + (k + 1))) = B at *
      generalize natD (1 + (k + 1) % I) = C at *
      generalize natD (I + (k + 1)) = E at *
      generalize natD ((k + 1) % I) = F at *
      generalize natD (k + 1) = K at *
      simp -implicitDefEqProofs [l__law_great_right_2, q1, q2, q3, q4, q5, q6, hml])
  exact ⟨σ', e1, x18, by simpa using e2⟩
theorem ch_given {c c0 : D} {m : Nat} {y6 x16 x17 x18 x19 : Option D} (hm : m ≤ 8) (hc : Cup c) : ∃ (bs : List Bool) (σw : Sd), lcS [6] e__law_great_right_1 (T.var 6) Eo.none LG [some c0, x1, x2, x3, x4, x5, y6, x7, x8, x9, x10, x11, x12, x13, x14, x15, x16, x17, x18, x19, none, none] ((List.range m).map natD) [some c, x1, x2, x3, x4, x5, y6, x7, x8, x9, x10, x11, x12, x13, x14, x15, x16, x17, x18, x19, none, none] = .ok (.lst (bs.map bitD), σw) ∧ (∃ c' : D, Cup c' ∧ σw = [some c', x1, x2, x3, x4, x5, y6, x7, x8, x9, x10, x11, x12, x13, x14, x15, x16, x17, x18, x19, none, none]) ∧ bs.length = m := by
  obtain ⟨bs, σn, t1, t2, t3, t4⟩ := lcS_draw (own := [6]) (elt := e__law_great_right_1) (t := T.var 6) (c := Eo.none) (l := LG) (σ0 := [some c0, x1, x2, x3, x4, x5, y6, x7, x8, x9, x10, x11, x12, x13, x14, x15, x16, x17, x18, x19, none, none]) (σ := [some c, x1, x2, x3, x4, x5, y6, x7, x8, x9, x10, x11, x12, x13, x14, x15, x16, x17, x18, x19, none, none]) natD bitD (fun _ => True)
    (fun σw => ∃ c : D, Cup c ∧ σw = [some c, x1, x2, x3, x4, x5, none, x7, x8, x9, x10, x11, x12, x13, x14, x15, x16, x17, x18, x19, none, none]) (ys := List.range m) (Fit.of (k := 8) (by simpa using hm) _ (by decide)) ⟨c, hc, by simp⟩ (by
      rintro j hj σw ⟨c, hc, rfl⟩
      obtain ⟨d, c', q1, q2, q3⟩ := run_someL (n := 28) (xs := [.int 1, .int 1, .int 1, .int 0]) hc (by simp) (by simp)
      obtain ⟨b, rfl⟩ : ∃ b : Bool, d = bitD b := by
        simp at q3
        rcases q3 with rfl | rfl
        · exact ⟨true, rfl⟩
        · exact ⟨false, rfl⟩
      exact ⟨b, _, by simp [lcT, e__law_great_right_1, callS, q1], trivial, c', q2, rfl⟩)
  obtain ⟨c, hc, rfl⟩ := t2
  exact ⟨bs, _, t1, ⟨c, hc, rfl⟩, by simpa using t3⟩
end
theorem run_great {c : D} (hc : Cup c) : ∃ c', Fs tb sub 31 i__law_great_right [c] = .ok (.bl true, [c']) ∧ Cup c' := by
  obtain ⟨c1, x1, x2, x3, x4, x5, x6, x7, x8, x9, x10, x11, x12, x13, x14, x15, hc1, hrest⟩ := run_counter hc
  obtain ⟨i0, c2, a1, hc2, b1⟩ := run_rollN (n := 29) (k := 7) hc1 (by decide) (by decide)
  have hic : (2 : Int) + i0 = ((2 + i0 : Nat) : Int) := by omega
  have h2 : 2 ≤ 2 + i0 := by omega
  have h8 : 2 + i0 ≤ 8 := by omega
  generalize 2 + i0 = I at h2 h8 hic
  obtain ⟨σ', r1, x18, rfl⟩ := ch_line (x1 := x1) (x2 := x2) (x3 := x3) (x4 := x4) (x5 := x5) (x6 := x6) (x7 := x7) (x8 := x8) (x9 := x9) (x10 := x10) (x11 := x11) (x12 := x12) (x13 := x13) (x14 := x14) (x15 := x15) (c := c2) h2 h8
  obtain ⟨given, σw, d1, ⟨c3, hc3, rfl⟩, hg⟩ := ch_given (x1 := x1) (x2 := x2) (x3 := x3) (x4 := x4) (x5 := x5) (y6 := x6) (x7 := x7) (x8 := x8) (x9 := x9) (x10 := x10) (x11 := x11) (x12 := x12) (x13 := x13) (x14 := x14) (x15 := x15) (c := c2) (c0 := c2) (x16 := some (natD I)) (x17 := some (.lst ((lnd I 399).map ndD))) (x18 := x18) (x19 := some (gtD (chG I))) (m := I) h8 hc2
  have hok := chG_ok h2 h8
  have k1 := run_is_gates (n := 26) hok
  have k2 := run_gates_step (n := 24) (given := given) (held := []) hok hg rfl
  rw [chain_step h2 h8 hg] at k2
  have hsum := biD_sum_bits given
  have hdec := sum_bits given
  rw [hg] at hdec
  have hrI : rangeL 0 (I : Int) = (List.range I).map natD := rangeL_of rfl
  have oI := rngOk_of (i := (I : Int)) (by omega) (by omega)
  have hr18 : rangeL 1 400 = (List.range 399).map fun k => natD (k + 1) := by kernel_rfl
  have q4 : bop .add (natD I) (.int 400) = some (natD (I + 400)) := by
    show bop .add (.int (I : Int)) (.int 400) = _
    simp
  have q5 : bop .mul (.int 2) (natD (I + 400)) = some (natD (2 * (I + 400))) := by
    generalize I + 400 = z
    show bop .mul (.int 2) (.int (z : Int)) = _
    rw [bop_mul (.inl (by omega))]
    show some (D.int _) = some (D.int _)
    congr 2
  have q6 : bop .add (natD (2 * (I + 400))) (.int 1) = some (natD (2 * (I + 400) + 1)) := by
    generalize 2 * (I + 400) = z
    show bop .add (.int (z : Int)) (.int 1) = _
    simp
  have hgt : gtD (chG I) = .tup [natD I, .int 0, .tup [], .tup ((lnd I 399).map ndD), .tup [], .tup [natD (2 * (I + 400)), natD (2 * (I + 400) + 1)]] := rfl
  have hl0 : some (D.lst ((lnd I 0).map ndD)) = some (.lst [.tup [.int 2, .int 4]]) := rfl
  have hbool : ∀ w : Bool, w = given.all id → exs (after 15 b__law_great_right) LG [some c3, x1, x2, x3, x4, x5, x6, x7, x8, x9, x10, x11, x12, x13, x14, x15, some (natD I), some (.lst ((lnd I 399).map ndD)), x18, some (gtD (chG I)), some (.tup (given.map bitD)), some (bitD w)] = .ok (.rt (.bl true), [some c3, x1, x2, x3, x4, x5, x6, x7, x8, x9, x10, x11, x12, x13, x14, x15, some (natD I), some (.lst ((lnd I 399).map ndD)), x18, some (gtD (chG I)), some (.tup (given.map bitD)), some (bitD w)]) := by
    intro w hw
    rw [← hw] at k2
    have e0 : ([] : List Bool).map bitD = [] := rfl
    rw [e0] at k2
    have k3 : ∀ w : Bool, Fs tb sub 30 i__law_like [.lst [.bl true, .tup [.tup [bitD w, bitD (!w)], .tup []]], .lst [.bl true, .tup [.tup [bitD w, bitD (!w)], .tup []]]] = .ok (.bl true, []) := fun w => run_like (n := 25) 3 _ (by cases w <;> simp [bitD])
    have k3 := k3 w
    have hnot : bop .sub (.int 1) (bitD w) = some (bitD (!w)) := by cases w <;> rfl
    generalize gtD (chG I) = G at *
    generalize (lnd I 399).map ndD = L at *
    generalize given.map bitD = V at *
    generalize bitD (!w) = nw at *
    generalize bitD w = pw at *
    show exs (Ss.cons (S.ret _) Ss.nil) _ _ = _
    simp -implicitDefEqProofs [callS, k1, k2, hnot, k3]
  refine ⟨c3, ?_, hc3⟩
  have e := hrest (.ok (.rt (.bl true), [some c3, x1, x2, x3, x4, x5, x6, x7, x8, x9, x10, x11, x12, x13, x14, x15, some (natD I), some (.lst ((lnd I 399).map ndD)), x18, some (gtD (chG I)), some (.tup (given.map bitD)), some (bitD (given.all id))])) (by
    refine exs_step (σ1 := [some c2, x1, x2, x3, x4, x5, x6, x7, x8, x9, x10, x11, x12, x13, x14, x15, some (natD I), some (.lst ((lnd I 0).map ndD)), none, none, none, none]) ?_ (exs_step (σ1 := [some c2, x1, x2, x3, x4, x5, x6, x7, x8, x9, x10, x11, x12, x13, x14, x15, some (natD I), some (.lst ((lnd I 399).map ndD)), x18, none, none, none]) ?_ (exs_step (σ1 := [some c2, x1, x2, x3, x4, x5, x6, x7, x8, x9, x10, x11, x12, x13, x14, x15, some (natD I), some (.lst ((lnd I 399).map ndD)), x18, some (gtD (chG I)), none, none]) ?_ (exs_step (σ1 := [some c3, x1, x2, x3, x4, x5, x6, x7, x8, x9, x10, x11, x12, x13, x14, x15, some (natD I), some (.lst ((lnd I 399).map ndD)), x18, some (gtD (chG I)), some (.tup (given.map bitD)), none]) ?_ (exs_step (σ1 := [some c3, x1, x2, x3, x4, x5, x6, x7, x8, x9, x10, x11, x12, x13, x14, x15, some (natD I), some (.lst ((lnd I 399).map ndD)), x18, some (gtD (chG I)), some (.tup (given.map bitD)), some (bitD (given.all id))]) ?_ (hbool _ rfl)))))
    · rw [hl0]
      simp -implicitDefEqProofs [callS, a1, hic]
    · generalize (lnd I 0).map ndD = L0 at *
      generalize (lnd I 399).map ndD = L at *
      have o4 : rngOk 400 = true := rfl
      have o1 : rngOk 1 = true := rfl
      simp -implicitDefEqProofs [hr18, o4, o1, r1]
    · rw [hgt]
      generalize (lnd I 399).map ndD = L at *
      generalize natD (2 * (I + 400) + 1) = B at *
      generalize natD (2 * (I + 400)) = A at *
      generalize natD (I + 400) = E at *
      simp -implicitDefEqProofs [q4, q5, q6]
    · generalize gtD (chG I) = G at *
      generalize (lnd I 399).map ndD = L at *
      simp -implicitDefEqProofs [hrI, oI, d1]
    · generalize gtD (chG I) = G at *
      generalize (lnd I 399).map ndD = L at *
      generalize given.map bitD = V at *
      have hcmp : cmpD .eq (.int (given.map bI).sum) (natD I) = some (given.all id) := by
        rw [← hdec]
        generalize (given.map bI).sum = z
        show cmpD .eq (.int z) (.int (I : Int)) = _
        simp
      generalize (given.map bI).sum = z at *
      cases hv : given.all id <;> rw [hv] at hcmp <;> simp -implicitDefEqProofs [hsum, hcmp, bitD])
  rw [call__law_great_right]
  have e1 : exs b__law_great_right (LV tb sub 30 f__law_great_right) _ = _ := e
  rw [e1]
  simp
theorem law_true (ns : List Int) (hn : ns.length ≤ 63) : ∃ ms, Fs tb sub 32 i_law [.frz (intL ns)] = .ok (.bl true, ms) := by
  obtain ⟨c0, h0, hc0⟩ := run_cup (n := 30) hn
  obtain ⟨σ', e1, c, g2, hc, e2⟩ := forS_inv (t := T.var 2) (l := LV tb sub 31 f_law) (b := l_law_1) (ys := List.range 8) (σ := [some (.frz (intL ns)), some c0, none]) (fun i : Nat => D.int i)
    (fun pre σ => ∃ (c : D) (g2 : Option D), Cup c ∧ σ = [some (.frz (intL ns)), some c, g2]) ⟨c0, none, hc0, rfl⟩ (by
      rintro pre k post σ e ⟨c, g2, hc, rfl⟩
      obtain ⟨c1, h1, hc1⟩ := run_gates_right (n := 6) hc
      refine ⟨[some (.frz (intL ns)), some c1, some (.int k)], ?_, c1, some (.int k), hc1, rfl⟩
      simp -implicitDefEqProofs [l_law_1, callS, h1])
  obtain ⟨c1, hg, hc1⟩ := run_great hc
  obtain ⟨c', hl⟩ := run_limits hc1
  have hr : rangeL 0 8 = (List.range 8).map fun i : Nat => D.int i := rangeL_nat 8
  obtain ⟨a, b, _, _, rfl⟩ := id hc0
  refine ⟨[], ?_⟩
  rw [call_law]
  simp [b_law, callS, h0, hr, rngOk, e1, e2, hg, hl]

set_option maxHeartbeats 0
def L : Lw where
  p := PySem.Challenge.pw_boardforged_k00_whole_gates
  rows := [⟨f_is_whole, 6, ["value", "low", "high"], false⟩,
    ⟨f_is_tuple_of, 7, ["value", "low", "high"], false⟩,
    ⟨f_are_bits, 14, ["value", "many", "bit"], false⟩,
    ⟨f_is_node, 15, ["value", "known"], false⟩,
    ⟨f_is_gates, 16, ["value", "inputs", "stores", "firsts", "nodes", "nexts", "outs", "at", "node", "most", "edge"], false⟩,
    ⟨f_need_gates, 17, ["value"], false⟩,
    ⟨f_edge_bit, 18, ["bits", "edge"], false⟩,
    ⟨f_all_bits, 19, ["gates", "given", "held", "bits", "one", "other"], false⟩,
    ⟨f_done, 20, ["gates", "given", "held", "bits", "edge"], false⟩,
    ⟨f_need_given, 21, ["many", "value"], false⟩,
    ⟨f_need_word, 22, ["many", "value", "row"], false⟩,
    ⟨f_gates_step, 23, ["gates", "given", "held"], false⟩,
    ⟨f_gates_run, 24, ["gates", "word", "found", "held", "given", "told"], false⟩,
    ⟨f_gates_bits, 25, ["gates", "given", "held"], false⟩,
    ⟨f__law_cup, 27, ["script", "cell"], false⟩,
    ⟨f__law_roll, 28, ["cup", "many", "found"], false⟩,
    ⟨f__law_some, 29, ["cup", "things"], false⟩,
    ⟨f__law_sort, 30, ["value"], false⟩,
    ⟨f__law_like, 31, ["one", "other", "sort", "first", "second"], false⟩,
    ⟨f__law_gates, 32, ["cup", "inputs", "stores", "nodes", "at", "most", "ends", "nexts", "store", "outs", "out"], false⟩,
    ⟨f__law_has, 33, ["gates", "given", "held", "edge", "seen", "thing", "turned", "inputs", "stores", "firsts", "nodes", "nexts", "outs", "one", "other"], false⟩,
    ⟨f__law_told, 34, ["gates", "given", "held", "seen", "outs", "edge"], false⟩,
    ⟨f__law_error, 35, ["call", "e", "pairs", "word", "is_so"], false⟩,
    ⟨f__law_gates_right, 36, ["cup", "gates", "inputs", "stores", "turn", "given", "spot", "held", "seen", "things", "thing", "word", "step", "found", "outs", "short"], false⟩,
    ⟨f__law_great_right, 37, ["cup", "many", "first", "nodes", "carry", "nexts", "spot", "store", "edge", "both", "start", "firsts", "gates", "steps", "due", "step", "inputs", "line", "at", "chain", "given", "whole"], false⟩,
    ⟨f__law_limits_right, 38, ["cup", "good", "odds", "rights", "value", "words", "bad", "name", "given", "held", "word", "told", "due"], true⟩,
    ⟨f_law, 39, ["script", "cup", "turn"], false⟩]
  excs := ["ForgeError", "InvalidWord", "InvalidValues", "InvalidGates"]
  con := [("INPUTS", (D.int 8)), ("STORES", (D.int 6)), ("NODES", (D.int 400)), ("OUTS", (D.int 16)), ("STEPS", (D.int 200))]
  anc := [[0], [1, 0], [2, 0], [3, 0]]
def names0 : List PySem.Str := ["ForgeError", "InvalidWord", "InvalidValues", "InvalidGates", "is_whole", "is_tuple_of", "INPUTS", "STORES", "NODES", "OUTS", "STEPS", "are_bits", "is_node", "is_gates", "need_gates", "edge_bit", "all_bits", "done", "need_given", "need_word", "gates_step", "gates_run", "gates_bits", "_law_cup", "_law_roll", "_law_some", "_law_sort", "_law_like", "_law_gates", "_law_has"]
def names1 : List PySem.Str := ["_law_told", "_law_error", "_law_gates_right", "_law_great_right", "_law_limits_right"]
def names : List PySem.Str := names0 ++ names1
def lawAt : Nat := 39
def lawIx : Nat := 26
theorem Lok : L.Ok tb := ⟨by kernel_rfl, by decide +kernel, by decide +kernel, rfl, by decide⟩
theorem Lsub : L.sub = sub := rfl
abbrev R0 : PySem.W.OpenRow := PySem.W.OpenLaw.row PySem.Challenge.rw_boardforged_k00_whole_gates
def ob (s : PySem.W.SharedT) : He.AlX := He.obsX 4 L.fa L.fn [] L.tf L.ex (HandSHeadRun.getT s)
theorem ob_eq (s : PySem.W.SharedT) : ob s = (L.hook 4).obs s.abs := He.obsX_eq (HandSHeadRun.getT_eq s)
theorem run (w : World) : HandSHeadRun.RunEq R0 (PySem.W.view R0.prog [lawAt]) (L.hook 4) ob 20000 names w := by
  intro os
  kernel_rfl
end BF.k00
open PySem PySem.W PySem.Calls PyProof.Rows
theorem PySem.Challenge.cw_boardforged_k00_whole_gates_holds : PySem.Challenge.rw_boardforged_k00_whole_gates.Holds := by
  w_on; o_law
  refine HandSHeadRun.head_any (r := BF.k00.R0) (q := view BF.k00.R0.prog [BF.k00.lawAt]) (H := BF.k00.L.hook 4) (ob := BF.k00.ob) (M := 20000) (loose := BF.k00.names) (d := HandSHeadRun.topDef BF.k00.R0.prog BF.k00.lawAt) (kwd := []) BF.k00.ob_eq
    (by kernel_rfl) (fun s => by kernel_rfl) BF.k00.run (by kernel_rfl) (by kernel_rfl) (by kernel_rfl) (by rfl) (by first | assumption | decide +kernel) (by decide +kernel) ⟨rfl, rfl, rfl, rfl, rfl, by decide +kernel⟩ ?hw ?hc
  case hw => w_witness2
  case hc =>
    exact BF.law_walk (L := BF.k00.L) (tb := BF.k00.tb) BF.k00.Lok (hn := 4) (idx := BF.k00.lawIx) (n := 31) (fdl := BF.k00.f_law) (rl := ⟨BF.k00.f_law, BF.k00.lawAt, ["script", "cup", "turn"], false⟩) rfl rfl rfl (by kernel_rfl) (by kernel_rfl) rfl (by rfl) (by kernel_rfl) (by decide) BF.k00.law_true
